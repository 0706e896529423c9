import PyProof.Rows.All
import Wide.All
import OpenK.AllK
import Wide.FinOn
import HandS.ForMost
import HandS.Wide
import HandS.Codes
import HandS.TupAny
import HandS.IsInst
import KE.KDictPairs
import PyProof.ListStr
import PyProof.StrOps2
import HandS.DictComp
import HandS.More
import HandS.Walk
import HandS.TryOnly
import HandS.Text
import HandS.EndBits
import PySem.Challenge.RW_owngrounds_k44_words_of_texts
set_option Elab.async false
set_option linter.all false
set_option maxRecDepth 100000
set_option maxHeartbeats 4000000
/-! The law's pen: a dict of five words, and what a draw leaves of it. -/
namespace Og
open PySem L2

abbrev kCells : Key := .inr "cells"
abbrev kAt : Key := .inr "at"
abbrev kDig : Key := .inr "digits"
abbrev kCount : Key := .inr "count"
abbrev kFold : Key := .inr "fold"
def penKV (l : Addr) (t d c f : Int) : List (Key × V) := [(kCells, .ref l), (kAt, .int t), (kDig, .int d), (kCount, .int c), (kFold, .int f)]

theorem ne12 : ¬ kCells = kAt := by decide +kernel
theorem ne13 : ¬ kCells = kDig := by decide +kernel
theorem ne14 : ¬ kCells = kCount := by decide +kernel
theorem ne15 : ¬ kCells = kFold := by decide +kernel
theorem ne23 : ¬ kAt = kDig := by decide +kernel
theorem ne24 : ¬ kAt = kCount := by decide +kernel
theorem ne25 : ¬ kAt = kFold := by decide +kernel
theorem ne34 : ¬ kDig = kCount := by decide +kernel
theorem ne35 : ¬ kDig = kFold := by decide +kernel
theorem ne45 : ¬ kCount = kFold := by decide +kernel

section
variable (l : Addr) (t d c f : Int)
theorem pen_cells : valV (penKV l t d c f) kCells = some (.ref l) := valV_pos rfl
theorem pen_at : valV (penKV l t d c f) kAt = some (.int t) := (valV_neg ne12).trans (valV_pos rfl)
theorem pen_dig : valV (penKV l t d c f) kDig = some (.int d) := (valV_neg ne13).trans ((valV_neg ne23).trans (valV_pos rfl))
theorem pen_count : valV (penKV l t d c f) kCount = some (.int c) := (valV_neg ne14).trans ((valV_neg ne24).trans ((valV_neg ne34).trans (valV_pos rfl)))
theorem pen_fold : valV (penKV l t d c f) kFold = some (.int f) := (valV_neg ne15).trans ((valV_neg ne25).trans ((valV_neg ne35).trans ((valV_neg ne45).trans (valV_pos rfl))))
theorem put_any {kvs : List (Key × V)} {k : Key} {v u : V} (h : valV kvs k = some u) : putK kvs k v = kvs.map (fun kv => if kv.1 = k then (kv.1, v) else kv) := by
  unfold putK
  rw [valV_any, h]
  exact if_pos rfl
theorem put_at (y : Int) : putK (penKV l t d c f) kAt (.int y) = penKV l y d c f := by
  rw [put_any (pen_at l t d c f)]
  simp only [penKV, List.map_cons, List.map_nil, if_neg ne12, if_pos, if_neg (Ne.symm ne23), if_neg (Ne.symm ne24), if_neg (Ne.symm ne25)]
theorem put_dig (y : Int) : putK (penKV l t d c f) kDig (.int y) = penKV l t y c f := by
  rw [put_any (pen_dig l t d c f)]
  simp only [penKV, List.map_cons, List.map_nil, if_neg ne13, if_pos, if_neg ne23, if_neg (Ne.symm ne34), if_neg (Ne.symm ne35)]
theorem put_count (y : Int) : putK (penKV l t d c f) kCount (.int y) = penKV l t d y f := by
  rw [put_any (pen_count l t d c f)]
  simp only [penKV, List.map_cons, List.map_nil, if_neg ne14, if_pos, if_neg ne24, if_neg ne34, if_neg (Ne.symm ne45)]
theorem put_fold (y : Int) : putK (penKV l t d c f) kFold (.int y) = penKV l t d c y := by
  rw [put_any (pen_fold l t d c f)]
  simp only [penKV, List.map_cons, List.map_nil, if_neg ne15, if_pos, if_neg ne25, if_neg ne35, if_neg ne45]
end

/-- a pen stands at p, its cells at l; n more draws may be made -/
structure PenAt (H : Hp) (p l : Addr) (n : Nat) : Prop where
  ex : ∃ (cells : List Int) (t d c f : Int), H p = some (.dK (penKV l t d c f)) ∧ H l = some (.lst (cells.map V.int)) ∧ cells.length ≤ 63 ∧ 0 ≤ t ∧ 0 ≤ d ∧ 0 ≤ c ∧ c + n ≤ 2 ^ 40 ∧ 0 ≤ f ∧ f < 2 ^ 32
theorem PenAt.mono {H : Hp} {p l : Addr} {n m : Nat} (h : PenAt H p l n) (hm : m ≤ n) : PenAt H p l m := by
  obtain ⟨cells, t, d, c, f, h1, h2, h3, h4, h5, h6, h7, h8, h9⟩ := h.ex
  exact ⟨cells, t, d, c, f, h1, h2, h3, h4, h5, h6, by omega, h8, h9⟩
theorem PenAt.same {H H' : Hp} {p l : Addr} {n : Nat} (h : PenAt H p l n) (s : Same H H') : PenAt H' p l n := by
  obtain ⟨cells, t, d, c, f, h1, h2, r⟩ := h.ex
  exact ⟨cells, t, d, c, f, s _ _ h1, s _ _ h2, r⟩
theorem PenAt.some {H : Hp} {p l : Addr} {n : Nat} (h : PenAt H p l n) : ∃ kvs, H p = Option.some (HO.dK kvs) := by
  obtain ⟨cells, t, d, c, f, h1, _⟩ := h.ex
  exact ⟨_, h1⟩
theorem PenAt.list {H : Hp} {p l : Addr} {n : Nat} (h : PenAt H p l n) : ∃ xs, H l = Option.some (HO.lst xs) := by
  obtain ⟨cells, t, d, c, f, _, h2, _⟩ := h.ex
  exact ⟨_, h2⟩
/-- all but what stands at p is as it was -/
def But (p : Addr) (H H' : Hp) : Prop := ∀ b o, H b = some o → b ≠ p → H' b = some o
theorem But.refl (p : Addr) (H : Hp) : But p H H := fun _ _ h _ => h
theorem But.trans {p : Addr} {H H1 H2 : Hp} (a : But p H H1) (b : But p H1 H2) : But p H H2 := fun c o h hc => b c o (a c o h hc) hc
theorem But.of {p : Addr} {H H' : Hp} (s : Same H H') : But p H H' := fun b o h _ => s b o h
theorem But.upd {p : Addr} {H : Hp} {o : HO} : But p H (upd H p o) := fun b u h hb => by rw [upd_ne hb]; exact h
theorem But.new {p q : Addr} {H : Hp} {o : HO} (hq : H q = none) : But p H (L2.upd H q o) := fun b u h _ => by
  rw [upd_ne (ne_of_none h hq)]
  exact h
theorem Same.new {q : Addr} {H : Hp} {o : HO} (hq : H q = none) : Same H (L2.upd H q o) := fun b u h => by
  rw [upd_ne (ne_of_none h hq)]
  exact h
/-- what is new stays new backwards -/
theorem But.back {p l : Addr} {H H' : Hp} {n : Nat} (s : But p H H') (hp : PenAt H' p l n) {b : Addr} (h : H' b = none) : H b = none := by
  cases q : H b with
  | none => rfl
  | some o =>
    by_cases e : b = p
    · obtain ⟨kvs, z⟩ := hp.some
      rw [e, z] at h
      cases h
    · rw [s b o q e] at h
      cases h
end Og

set_option Elab.async false
set_option linter.all false
set_option maxRecDepth 100000
set_option maxHeartbeats 4000000
/-! A def's promise where no repr runs around it: FnOk, with one thing more known of what runs around. -/
namespace Og
open PySem PySem.Spec PyProof.Rows L2

structure FnOkG (P : Program) (w : World) (K : PySem.W.Frag) (mg : Str → Option Value) (base : Heap)
    (CX : CXT) (k : Nat) (f : Addr) (fd : FuncData) (ps : List Str) (sp : Sp) : Prop where
  long : ∀ vs H Q E, sp vs H Q E → vs.length = ps.length
  goes : ∀ (A : Around) (outer : List Env) (s : Shared) (H : Hp) (args : Args) (us : List Value) (vs : List V) (Q : VK) (E : XK),
    A.guards = some [] → Room k A → Env0 P w K mg base A outer s H → BindsTo s fd args (ps.zip us) →
    Vals vs us → sp vs H Q E → codeAny (model P w) A (.call (.ref f) args) (CR CX outer P w H s Q E) s

section
variable {P : Program} {w : World} {K : PySem.W.Frag} {mg : Str → Option Value} {base : Heap}
/-- a def of the text, nothing leaves it; that no repr runs is handed on -/
theorem fun_okG {x qual : Str} {st : Stmt} {f : Addr} {fd : FuncData} {N ps : List Str} {k : Nat} {sp : Sp} (F : Fun K x qual st f fd)
    (S : FnScope N ps (defScope st)) (len : ∀ vs H Q E, sp vs H Q E → vs.length = ps.length)
    (hbody : ∀ (cdv : Value) (A : Around) (outer : List Env) (s : Shared) (H : Hp) (vs : List V) (Q : VK) (E : XK), A.guards = some [] →
      Room k (A.deeper (envOfC qual (defScope st) s.heap.objs.size f cdv)) → sp vs H Q E →
      ∃ t, PSs (cxOf CX0 P w K mg base N qual (defScope st) f cdv A outer s H E).nox (defBody st) t ∧ t { nx := fun _ H' => Q .non H', rt := Q } (start N vs) H) :
    FnOkG P w K mg base CX0 (k + 1) f fd ps sp := by
  obtain ⟨oc, od, kV, doc, pm, an, cdv, ct, osl, rfl, lk, hcd⟩ := F.ex
  refine ⟨len, ?_⟩
  intro A outer s H args us vs Q E hg hr e0 hb r hsp
  have hl := len _ _ _ _ hsp
  have kb : ∀ b o, base.get? b = some o → s.heap.get? b = some o := fun b o e => (e0.bs b o e).1
  have KX : K.In s.heap := e0.mod.kin.keeps kb
  have lim : s.heap.NoLimit := e0.mod.nolimit.keeps kb
  refine codeAny_call_function hr.depth (KX _ _ lk) rfl S.co S.gen rfl (PySem.W.codeRec_of KX hcd) (hb _ _ _ _ ?_)
  refine wpAny_newFunctionEnv_cells S.kind ?hk ?_
  case hk =>
    rintro ⟨n, v⟩ hy
    cases S.par n (List.of_mem_zip hy).1 with
    | inl q => exact .inl q
    | inr q => exact .inr ⟨q, PySem.W.cellsFrom_some _ _ _ (.inl q)⟩
  intro env he s1 x
  subst he
  refine ⟨lim.keeps x.toInCall.keep, codeAny_func ?_⟩
  obtain ⟨t, ht, hq⟩ := hbody cdv A outer s H vs Q E hg (hr.deeper _) hsp
  have I : Inv (cxOf CX0 P w K mg base N qual (defScope st) f cdv A outer s H E) [] (start N vs) H s1 := inv_start S hr.hd e0 hl r x
  refine wpAny_mono (ht.nox.run [] s1 (start N vs) H _ I hq) ?_ (fun e s' z => z)
  intro fl s' hs
  cases fl with
  | ret u => exact let ⟨v, _, H', J, rv, q⟩ := hs; ⟨v, H', J.os, J.bare, J.base, J.hok, rv, q⟩
  | next => exact let ⟨_, H', J, q⟩ := hs; ⟨V.non, H', J.os, J.bare, J.base, J.hok, rfl, q⟩
  | brk => exact let ⟨_, _, _, q⟩ := hs; False.elim q
  | cont => exact let ⟨_, _, _, q⟩ := hs; False.elim q
end
section
variable {X : Cx} {CX : CXT} {k : Nat} {f : Addr} {fd : FuncData} {ps : List Str} {sp : Sp} {E : XK} {x : Str} {p pos : Pos} {e : Expr} {es : List Expr} {t : TA} {ds : List Value} {dvs : List V}
/-- a call of such a def -/
theorem pe_callG (F : FnOkG X.prog X.w X.K X.mg X.base CX k f fd ps sp) (hG : X.A.guards = some []) (hr : Room k X.A) (hg : Gl X x) (hm : X.mg x = some (.ref f)) (hk : PySem.W.keepIn X.K (.ref f) = true)
    (hb : Binds X.K fd ps ds) (hd : Vals dvs ds) (hx : Passes CX X E)
    (ha : PA X (e :: es) t) (hdb : (x == ("__debug__" : Str)) = false := by decide) (he : starEach (e :: es) X.env = (false, eval e X.env) :: starEach es X.env := by rfl) (hpl : (backTo pos (starEach es X.env)).any (·.1) = false := by rfl) :
    PE X (.Call (.Name x p) (e :: es) [] pos) (tCall sp dvs E t) := by
  constructor
  intro pins s σ H Q I h
  refine wpAny_Call_Name_kw (ld_glob I hg hm (PySem.W.callWith_K (h₀ := X.base) I.ok.mod.kin hk (thn (ha.run pos pins s σ H _ I h) ?_) he hpl) hdb)
  rintro us s1 ⟨vs, H1, I1, r, q⟩
  have r2 : Vals (vs ++ dvs) (us ++ ds) := r.append hd
  have hl : (us ++ ds).length = ps.length := by rw [← r2.length]; exact F.long _ _ _ _ q
  refine ⟨I1.kIn, wpAny_call (codeAny_mono (F.goes X.A X.stack s1 H1 ⟨us, []⟩ (us ++ ds) (vs ++ dvs) Q E hG hr I1.env0 (hb s1 us I1.kIn hl) r2 q) ?_)⟩
  rintro (er | fl) s' hq
  · exact hx pins σ H1 s1 er s' I1 hq
  · cases fl with
    | ret u => exact I1.after hq
    | next => exact hq.elim
    | brk => exact hq.elim
    | cont => exact hq.elim
end
/-- the law's own call, from such a promise: the script is an object of the module, or is tracked as one that is read alone -/
theorem law_goes {P : Program} {w : World} {K : PySem.W.Frag} {mg mb : Str → Option Value} {k : Nat} {fa a : Addr} {fd : FuncData} {x : Str} {sp : Sp} {s₁ : Shared} {vs : List Value} {ns : List Int}
    (KX : K.In s₁.heap) (hns : s₁.heap.Ns mainGlobals mg) (hb : s₁.heap.Ns builtinsNs mb) (hbb : ∀ x : Str, x ≠ "__name__" → mb x = bootBuiltins x) (hlim : s₁.heap.NoLimit) (hg : s₁.gens = #[])
    (ha : s₁.heap.get? a = some { cls := .type "list", data := .seq vs.toArray }) (hi : IntsAre vs ns) (hl : ns.length ≤ sizeLine) (hr : Room k callerA)
    (F : ∀ base : Heap, K.In base → base.Ns mainGlobals mg → FnOkG P w K mg base CX0 k fa fd [x] sp) (hbind : ∀ (s : Shared) (u : Value), BindsTo s fd ⟨[u], []⟩ [(x, u)])
    (hsp : ∀ H : Hp, SqL K H a (ns.map V.int) → sp [.ref a] H (fun v _ => v = .bl true) fun _ _ _ => False) :
    codeAny (model P w) callerA (.call (.ref fa) ⟨[.ref a], []⟩) (fun r s' => r = .ok (.ret (.bool true)) ∧ OldK s₁.heap s'.heap ∧ s'.os = s₁.os ∧ AllBare s'.gens) s₁ := by
  have rv := vals_ints hi
  let oS : Obj := { cls := .type "list", data := .seq vs.toArray }
  let H : Hp := fun b => if b = a ∧ K.lookup a = none then some (.frz oS (.lst (ns.map V.int))) else none
  have hH : ∀ b u, H b = some u → b = a ∧ K.lookup a = none ∧ u = .frz oS (.lst (ns.map V.int)) := fun b u z => by
    by_cases q : b = a ∧ K.lookup a = none
    · have z2 : some (HO.frz oS (.lst (ns.map V.int))) = some u := (if_pos q).symm.trans z
      exact ⟨q.1, q.2, (Option.some.inj z2).symm⟩
    · have z2 : (none : Option HO) = some u := (if_neg q).symm.trans z
      cases z2
  have ok : HOk P w H s₁.heap := fun b u z => by
    obtain ⟨rfl, _, rfl⟩ := hH b u z
    exact ⟨ha, by rw [List.length_map]; exact hl, vs, _, rv, ha⟩
  have seq : SqL K H a (ns.map V.int) := by
    cases e : K.lookup a with
    | none => exact .inl (.inr ⟨oS, if_pos ⟨rfl, e⟩⟩)
    | some o =>
      have z := KX a o e
      rw [ha] at z
      cases z
      exact .inr ⟨_, vs.toArray, _, e, rfl, rfl, rfl, by rw [List.size_toArray, hi.length]; exact hl, by simpa using rv⟩
  have free : ∀ {b : Addr} {o : Obj}, s₁.heap.get? b = some o → o ≠ oS → H b = none := fun {b o} e d => by
    cases q : H b with
    | none => rfl
    | some u =>
      obtain ⟨rfl, _, _⟩ := hH b u q
      rw [ha] at e
      exact absurd (Option.some.inj e).symm d
  have nsB : ∀ {b : Addr} {m : Str → Option Value}, s₁.heap.Ns b m → (hidT s₁.heap H).Ns b m := fun {b m} ⟨o, es, ep, e, d, r⟩ =>
    ⟨o, es, ep, hidT_get e (free e fun z => by rw [z] at d; cases d), d, r⟩
  have KB : K.In (hidT s₁.heap H) := fun b o e => hidT_get (KX b o e) (by
    cases q : H b with
    | none => rfl
    | some u =>
      obtain ⟨rfl, n, _⟩ := hH b u q
      rw [n] at e
      cases e)
  obtain ⟨mc, l1, l2⟩ := hlim
  have e0 : Env0 P w K mg (hidT s₁.heap H) callerA [] s₁ H :=
    { frames := rfl, mod := ⟨KB, nsB hns, ⟨mb, nsB hb, hbb⟩, ⟨mc, nsB l1, l2⟩⟩, bs := fun b o e => of_hidT e, bsz := Nat.le_of_eq (hidT_size _ _), funs := trivial, frf := (fun b hb => (nomatch hb)), hok := ok, bare := .of_eq hg }
  refine codeAny_mono ((F _ KB (nsB hns)).goes callerA [] s₁ H ⟨[.ref a], []⟩ [.ref a] [.ref a] _ _ rfl hr e0 (hbind s₁ (.ref a)) (.cons rfl .nil) (hsp H seq)) ?_
  rintro (e | fl) s' h
  · exact False.elim h
  cases fl with
  | next => exact False.elim h
  | brk => exact False.elim h
  | cont => exact False.elim h
  | ret u =>
    obtain ⟨v, H', os, bare, un, hok', r', q⟩ := h
    cases (show v = .bl true from q)
    cases (show u = Value.bool true from r')
    refine ⟨rfl, OldK.of_keep fun b o e => ?_, os, bare⟩
    cases q : H b with
    | none => exact un.keep b o e q (by simp [frs]) (by simp)
    | some u =>
      obtain ⟨rfl, _, rfl⟩ := hH b u q
      obtain ⟨e1, _⟩ := hok' b _ (un.frzs b _ _ q)
      rw [ha] at e
      cases e
      exact e1
/-- the end of a law of at most n ints -/
theorem walk_ofG {l : PySem.W.OpenLaw} {n k : Nat} {q : Program} {loose : List Str} {XP : (Str → Option Value) → Heap → Prop} {YP : World → Heap → Prop} {d : DefRec} {K : Params → PySem.W.Frag} {sp : PySem.W.Frag → Sp} {x : Str}
    (hn : l.most = some n) (hn2 : n ≤ sizeLine) (hdf : d.params.defaults = []) (hr : Room k callerA) (hY : ∀ (w : World) (h : Heap), YP w h → (K w.params).In h)
    (F : ∀ (w : World) (mg : Str → Option Value) (fa : Addr) (h : Heap), (K w.params).In h → h.Ns mainGlobals mg → mg d.name = some (.ref fa) →
      ∃ fd : FuncData, (∀ (s : Shared) (u : Value), BindsTo s fd ⟨[u], []⟩ [(x, u)]) ∧
        ∀ base : Heap, (K w.params).In base → base.Ns mainGlobals mg → FnOkG l.prog w (K w.params) mg base CX0 k fa fd [x] (sp (K w.params)))
    (hsp : ∀ (K : PySem.W.Frag) (H : Hp) (a : Addr) (ns : List Int), ns.length ≤ n → SqL K H a (ns.map V.int) → sp K [.ref a] H (fun v _ => v = .bl true) fun _ _ _ => False) :
    PySem.W.WalkO q loose XP YP l.row.toRowW d [] (fun f vs => PySem.call f vs) := by
  refine Att.attach_call hn hdf ?_
  intro w s₀ s₁ mg mb fa o pm cd doc a vs ns G Y ho hd hcd hmg hobj hints hlen hg
  obtain ⟨fd, hb, hF⟩ := F w mg fa _ (hY w _ Y) G.T.g hmg
  exact law_goes (hY w _ Y) G.T.g G.T.b G.T.builtins G.T.nolimit hg hobj hints (Nat.le_trans hlen hn2) hr hF hb fun H hS => hsp _ H a ns hlen hS
end Og

set_option Elab.async false
set_option linter.all false
set_option maxRecDepth 100000
set_option maxHeartbeats 4000000
/-! A def of the text by its name: where it stands, what it promises, how it is called. -/
namespace Og
open PySem PySem.Spec PyProof.Rows L2
/-- the module's name x holds the def st -/
structure DefAt (K : PySem.W.Frag) (mg : Str → Option Value) (x : Str) (st : Stmt) : Prop where
  ex : ∃ (f : Addr) (fd : FuncData), mg x = some (.ref f) ∧ Fun K x x st f fd
/-- the module's name x holds a def that keeps sp -/
structure Callee (P : Program) (w : World) (K : PySem.W.Frag) (mg : Str → Option Value) (base : Heap) (CX : CXT) (x : Str) (k : Nat) (ps : List Str) (sp : Sp) : Prop where
  ex : ∃ (f : Addr) (fd : FuncData), mg x = some (.ref f) ∧ PySem.W.keepIn K (.ref f) = true ∧ Binds K fd ps [] ∧ FnOkG P w K mg base CX k f fd ps sp
/-- how arguments by place alone bind to a def without defaults -/
def BindsAs (x : Str) (st : Stmt) (ps : List Str) : Prop := ∀ (kV doc pm : Value) (an : Option Addr) (cdv ct : Value) (us : List Value), us.length = ps.length →
  bindArgs (PySem.W.fnOf x x (defArgs st) (defBody st) (defScope st) .none kV doc pm an cdv ct) ⟨us, []⟩ = pure (ps.zip us)
section
variable {P : Program} {w : World} {K : PySem.W.Frag} {mg : Str → Option Value} {base : Heap}
theorem callee_of {x : Str} {st : Stmt} {N ps : List Str} {k : Nat} {sp : Sp} (D : DefAt K mg x st) (S : FnScope N ps (defScope st)) (hb : BindsAs x st ps) (len : ∀ vs H Q E, sp vs H Q E → vs.length = ps.length)
    (hbody : ∀ (f : Addr) (cdv : Value) (A : Around) (outer : List Env) (s : Shared) (H : Hp) (vs : List V) (Q : VK) (E : XK), A.guards = some [] →
      Room k (A.deeper (envOfC x (defScope st) s.heap.objs.size f cdv)) → sp vs H Q E →
      ∃ t, PSs (cxOf CX0 P w K mg base N x (defScope st) f cdv A outer s H E).nox (defBody st) t ∧ t { nx := fun _ H' => Q .non H', rt := Q } (start N vs) H) :
    Callee P w K mg base CX0 x (k + 1) ps sp := by
  obtain ⟨f, fd, h1, F⟩ := D.ex
  exact ⟨f, fd, h1, F.kp, F.binds hb, fun_okG F S len fun cdv A outer s H vs Q E => hbody f cdv A outer s H vs Q E⟩
theorem Callee.imp {CX : CXT} {x : Str} {k : Nat} {ps : List Str} {sp sp' : Sp} (c : Callee P w K mg base CX x k ps sp) (h : ∀ vs H Q E, sp' vs H Q E → sp vs H Q E) : Callee P w K mg base CX x k ps sp' := by
  obtain ⟨f, fd, h1, h2, h3, F⟩ := c.ex
  exact ⟨f, fd, h1, h2, h3, fun vs H Q E q => F.long vs H Q E (h _ _ _ _ q), fun A outer s H args us vs Q E hg hr he hb hv hs => F.goes A outer s H args us vs Q E hg hr he hb hv (h _ _ _ _ hs)⟩
end
section
variable {X : Cx} {CX : CXT} {k : Nat} {ps : List Str} {sp : Sp} {E : XK} {x : Str} {p pos : Pos} {e : Expr} {es : List Expr} {t : TA}
theorem pe_fn (c : Callee X.prog X.w X.K X.mg X.base CX x k ps sp) (hG : X.A.guards = some []) (hr : Room k X.A) (hx : Passes CX X E) (ha : PA X (e :: es) t) (hg : Gl X x := by rfl)
    (hdb : (x == ("__debug__" : Str)) = false := by decide) (he : starEach (e :: es) X.env = (false, eval e X.env) :: starEach es X.env := by rfl) (hpl : (backTo pos (starEach es X.env)).any (·.1) = false := by rfl) :
    PE X (.Call (.Name x p) (e :: es) [] pos) (tCall sp [] E t) := by
  obtain ⟨f, fd, h1, h2, h3, F⟩ := c.ex
  exact pe_callG F hG hr hg h1 h2 h3 .nil hx ha hdb he hpl
end
/-- built-ins that the module does not hide -/
structure Blt (mg : Str → Option Value) : Prop where
  fr : ∀ x : Str, x ∈ (["int", "list", "len", "str", "isinstance", "enumerate", "range", "all", "any", "dict", "tuple", "sorted", "zip", "repr", "set", "bool", "sum", "max", "min", "abs", "ValueError", "KeyError"] : List Str) → mg x = none
theorem Blt.int {mg : Str → Option Value} (B : Blt mg) : mg "int" = none := B.fr _ (by simp)
theorem Blt.list {mg : Str → Option Value} (B : Blt mg) : mg "list" = none := B.fr _ (by simp)
theorem Blt.len {mg : Str → Option Value} (B : Blt mg) : mg "len" = none := B.fr _ (by simp)
theorem Blt.str {mg : Str → Option Value} (B : Blt mg) : mg "str" = none := B.fr _ (by simp)
theorem Blt.isinstance {mg : Str → Option Value} (B : Blt mg) : mg "isinstance" = none := B.fr _ (by simp)
theorem Blt.enumerate {mg : Str → Option Value} (B : Blt mg) : mg "enumerate" = none := B.fr _ (by simp)
theorem Blt.range {mg : Str → Option Value} (B : Blt mg) : mg "range" = none := B.fr _ (by simp)
theorem Blt.all {mg : Str → Option Value} (B : Blt mg) : mg "all" = none := B.fr _ (by simp)
theorem Blt.dict {mg : Str → Option Value} (B : Blt mg) : mg "dict" = none := B.fr _ (by simp)
theorem Blt.tuple {mg : Str → Option Value} (B : Blt mg) : mg "tuple" = none := B.fr _ (by simp)
theorem Blt.sorted {mg : Str → Option Value} (B : Blt mg) : mg "sorted" = none := B.fr _ (by simp)
theorem Blt.zip {mg : Str → Option Value} (B : Blt mg) : mg "zip" = none := B.fr _ (by simp)
theorem Blt.set {mg : Str → Option Value} (B : Blt mg) : mg "set" = none := B.fr _ (by simp)
theorem Blt.repr {mg : Str → Option Value} (B : Blt mg) : mg "repr" = none := B.fr _ (by simp)
theorem Blt.bool {mg : Str → Option Value} (B : Blt mg) : mg "bool" = none := B.fr _ (by simp)
end Og

set_option Elab.async false
set_option linter.all false
set_option maxRecDepth 100000
set_option maxHeartbeats 4000000
/-! Values of tuples, texts, ints at any depth, as data; lists of such; rules by data alone. -/
namespace Og
open PySem PySem.Spec PyProof.Rows L2
mutual
/-- a value without lists: what it is as data, and it never changes -/
inductive Tp (K : PySem.W.Frag) (H : Hp) : V → PyData → Prop
  | non : Tp K H .non .none
  | bl (b : Bool) : Tp K H (.bl b) (.bool b)
  | int (i : Int) : Tp K H (.int i) (.int i)
  | str (x : Str) : Tp K H (.str x) (.str x)
  | tup {a : Addr} {xs : List V} {ds : List PyData} : SqT K H a xs → TpAll K H xs ds → Tp K H (.ref a) (.tuple ds)
inductive TpAll (K : PySem.W.Frag) (H : Hp) : List V → List PyData → Prop
  | nil : TpAll K H [] []
  | cons {v : V} {vs : List V} {d : PyData} {ds : List PyData} : Tp K H v d → TpAll K H vs ds → TpAll K H (v :: vs) (d :: ds)
end
/-- tuples stand as they stood -/
def Tk (K : PySem.W.Frag) (H H' : Hp) : Prop := ∀ a xs, SqT K H a xs → SqT K H' a xs
section
variable {K : PySem.W.Frag} {H H' H'' : Hp}
theorem Tk.refl : Tk K H H := fun _ _ h => h
theorem Tk.trans (a : Tk K H H') (b : Tk K H' H'') : Tk K H H'' := fun c xs h => b c xs (a c xs h)
theorem Tk.same (s : Same H H') : Tk K H H' := fun a xs h => by
  rcases h with (h | ⟨o, h⟩) | h
  · exact .inl (.inl (s _ _ h))
  · exact .inl (.inr ⟨o, s _ _ h⟩)
  · exact .inr h
/-- all but what stands at S is as it was -/
def Ext (S : List Addr) (H H' : Hp) : Prop := ∀ b o, H b = some o → b ∉ S → H' b = some o
theorem Ext.refl (S : List Addr) : Ext S H H := fun _ _ h _ => h
theorem Ext.trans {S : List Addr} (a : Ext S H H') (b : Ext S H' H'') : Ext S H H'' := fun c o h n => b c o (a c o h n) n
theorem Ext.of {S : List Addr} (s : Same H H') : Ext S H H' := fun b o h _ => s b o h
theorem Ext.mono {S T : List Addr} (a : Ext S H H') (h : ∀ x ∈ S, x ∈ T) : Ext T H H' := fun b o e n => a b o e fun m => n (h b m)
theorem Ext.same (a : Ext [] H H') : Same H H' := fun b o h => a b o h (by simp)
theorem Ext.but {p : Addr} (a : But p H H') : Ext [p] H H' := fun b o h n => a b o h (by simpa using n)
theorem But.ext {p : Addr} (a : Ext [p] H H') : But p H H' := fun b o h n => a b o h (by simpa using n)
theorem Ext.upd {S : List Addr} {p : Addr} {o : HO} (h : p ∈ S) : Ext S H (L2.upd H p o) := fun b u e n => by rw [upd_ne (fun z => n (by rw [z]; exact h))]; exact e
/-- at S stand things that are no tuples -/
def NoTup (H : Hp) (S : List Addr) : Prop := ∀ s ∈ S, ∀ xs, ¬ Rd H s (.tup xs)
theorem NoTup.nil : NoTup H [] := fun s h => by simp at h
theorem NoTup.dict {p : Addr} {kvs : List (Key × V)} {S : List Addr} (h : H p = some (.dK kvs)) (r : NoTup H S) : NoTup H (p :: S) := fun s hs xs => by
  rcases List.mem_cons.mp hs with rfl | hs
  · rintro (e | ⟨o, e⟩) <;> rw [h] at e <;> cases e
  · exact r s hs xs
theorem NoTup.list {p : Addr} {ys : List V} {S : List Addr} (h : H p = some (.lst ys)) (r : NoTup H S) : NoTup H (p :: S) := fun s hs xs => by
  rcases List.mem_cons.mp hs with rfl | hs
  · rintro (e | ⟨o, e⟩) <;> rw [h] at e <;> cases e
  · exact r s hs xs
theorem NoTup.pen {p l : Addr} {n : Nat} {S : List Addr} (h : PenAt H p l n) (r : NoTup H S) : NoTup H (p :: S) := let ⟨_, e⟩ := h.some; .dict e r
theorem Tk.ext {S : List Addr} (s : Ext S H H') (n : NoTup H S) : Tk K H H' := fun a xs h => by
  rcases h with (h | ⟨o, h⟩) | h
  · exact .inl (.inl (s _ _ h fun m => n a m xs (.inl h)))
  · exact .inl (.inr ⟨o, s _ _ h fun m => n a m xs (.inr ⟨o, h⟩)⟩)
  · exact .inr h
theorem Tk.but {p l : Addr} {n : Nat} (s : But p H H') (h : PenAt H p l n) : Tk K H H' := Tk.ext (Ext.but s) (.pen h .nil)
mutual
theorem Tp.keep (k : Tk K H H') : ∀ {v : V} {d : PyData}, Tp K H v d → Tp K H' v d
  | _, _, .non => .non
  | _, _, .bl b => .bl b
  | _, _, .int i => .int i
  | _, _, .str x => .str x
  | _, _, .tup h r => .tup (k _ _ h) (TpAll.keep k r)
theorem TpAll.keep (k : Tk K H H') : ∀ {vs : List V} {ds : List PyData}, TpAll K H vs ds → TpAll K H' vs ds
  | _, _, .nil => .nil
  | _, _, .cons h r => .cons (Tp.keep k h) (TpAll.keep k r)
end
theorem Tp.same {v : V} {d : PyData} (h : Tp K H v d) (s : Same H H') : Tp K H' v d := h.keep (.same s)
theorem TpAll.same {v : List V} {d : List PyData} (h : TpAll K H v d) (s : Same H H') : TpAll K H' v d := h.keep (.same s)
theorem Tp.tup_inv {v : V} {ds : List PyData} (h : Tp K H v (.tuple ds)) : ∃ a xs, v = .ref a ∧ SqT K H a xs ∧ TpAll K H xs ds := by
  cases h with
  | tup h1 h2 => exact ⟨_, _, rfl, h1, h2⟩
theorem Tp.str_inv {v : V} {z : Str} (h : Tp K H v (.str z)) : v = .str z := by cases h; rfl
theorem Tp.int_inv {v : V} {z : Int} (h : Tp K H v (.int z)) : v = .int z := by cases h; rfl
theorem Tp.non_inv {v : V} (h : Tp K H v .none) : v = .non := by cases h; rfl
theorem TpAll.length {vs : List V} {ds : List PyData} (h : TpAll K H vs ds) : vs.length = ds.length := by
  induction vs generalizing ds with
  | nil => cases h; rfl
  | cons v vs ih =>
    cases h with
    | cons _ r => rw [List.length_cons, List.length_cons, ih r]
theorem TpAll.get : ∀ {vs : List V} {ds : List PyData} {i : Nat} {d : PyData}, TpAll K H vs ds → ds[i]? = some d → ∃ v, vs[i]? = some v ∧ Tp K H v d
  | _, _, _, _, .nil, e => by simp at e
  | _, _, 0, _, .cons h _, e => by
    simp at e
    subst e
    exact ⟨_, rfl, h⟩
  | _, _, i + 1, d, .cons _ r, e => by
    obtain ⟨v, h1, h2⟩ := TpAll.get (i := i) (d := d) r (by simpa using e)
    exact ⟨v, by simpa using h1, h2⟩
theorem TpAll.getV : ∀ {vs : List V} {ds : List PyData} {i : Nat} {v : V}, TpAll K H vs ds → vs[i]? = some v → ∃ d, ds[i]? = some d ∧ Tp K H v d
  | _, _, _, _, .nil, e => by simp at e
  | _, _, 0, _, .cons h _, e => by
    simp at e
    subst e
    exact ⟨_, rfl, h⟩
  | _, _, i + 1, d, .cons _ r, e => by
    obtain ⟨v, h1, h2⟩ := TpAll.getV (i := i) (v := d) r (by simpa using e)
    exact ⟨v, by simpa using h1, h2⟩
theorem TpAll.append : ∀ {vs ws : List V} {ds es : List PyData}, TpAll K H vs ds → TpAll K H ws es → TpAll K H (vs ++ ws) (ds ++ es)
  | _, _, _, _, .nil, r => r
  | _, _, _, _, .cons h t, r => .cons h (TpAll.append t r)
theorem TpAll.one {v : V} {d : PyData} (h : Tp K H v d) : TpAll K H [v] [d] := .cons h .nil
theorem TpAll.take : ∀ {vs : List V} {ds : List PyData} (n : Nat), TpAll K H vs ds → TpAll K H (vs.take n) (ds.take n)
  | _, _, 0, _ => .nil
  | _, _, _ + 1, .nil => .nil
  | _, _, n + 1, .cons h r => .cons h (TpAll.take n r)
theorem TpAll.drop : ∀ {vs : List V} {ds : List PyData} (n : Nat), TpAll K H vs ds → TpAll K H (vs.drop n) (ds.drop n)
  | _, _, 0, h => h
  | _, _, _ + 1, .nil => .nil
  | _, _, n + 1, .cons h r => TpAll.drop n r
theorem TpAll.erase : ∀ {vs : List V} {ds : List PyData} (n : Nat), TpAll K H vs ds → TpAll K H (vs.eraseIdx n) (ds.eraseIdx n)
  | _, _, _, .nil => .nil
  | _, _, 0, .cons h r => r
  | _, _, n + 1, .cons h r => .cons h (TpAll.erase n r)
theorem TpAll.flat {vs : List V} {ds : List PyData} : ∀ (n : Nat), TpAll K H vs ds → TpAll K H (List.replicate n vs).flatten (List.replicate n ds).flatten
  | 0, _ => .nil
  | n + 1, h => by
    rw [List.replicate_succ, List.replicate_succ, List.flatten_cons, List.flatten_cons]
    exact h.append (TpAll.flat n h)
theorem tpAll_strs (zs : List Str) : TpAll K H (zs.map V.str) (zs.map PyData.str) := by
  induction zs with
  | nil => exact .nil
  | cons z r ih => exact .cons (.str z) ih
theorem TpAll.strs {vs : List V} : ∀ {zs : List Str}, TpAll K H vs (zs.map PyData.str) → vs = zs.map V.str
  | [], h => by cases h; rfl
  | z :: r, h => by
    cases h with
    | cons h1 h2 =>
      rw [TpAll.strs h2, h1.str_inv]
      rfl
mutual
theorem Tp.dp : ∀ {v : V} {d : PyData}, Tp K H v d → Dp K H v d
  | _, _, .non => .non
  | _, _, .bl b => .bl b
  | _, _, .int i => .int i
  | _, _, .str x => .str x
  | _, _, .tup h r => .tup h (TpAll.dp r)
theorem TpAll.dp : ∀ {vs : List V} {ds : List PyData}, TpAll K H vs ds → DpAll K H vs ds
  | _, _, .nil => .nil
  | _, _, .cons h r => .cons (Tp.dp h) (TpAll.dp r)
end
theorem tp_new {p : Addr} {vs : List V} {ds : List PyData} (hp : H p = none) (h : TpAll K H vs ds) : Tp K (upd H p (.tup vs)) (.ref p) (.tuple ds) := .tup (SqT.of upd_same) (h.same (Same.new hp))
/-- a list of ours, its items as data -/
def LsAt (K : PySem.W.Frag) (H : Hp) (l : Addr) (ds : List PyData) : Prop := ∃ xs, H l = some (.lst xs) ∧ TpAll K H xs ds
theorem LsAt.same {l : Addr} {ds : List PyData} (h : LsAt K H l ds) (s : Same H H') : LsAt K H' l ds := let ⟨xs, e, r⟩ := h; ⟨xs, s _ _ e, r.same s⟩
theorem LsAt.ext {S : List Addr} {l : Addr} {ds : List PyData} (h : LsAt K H l ds) (s : Ext S H H') (n : NoTup H S) (hl : l ∉ S) : LsAt K H' l ds := let ⟨xs, e, r⟩ := h; ⟨xs, s _ _ e hl, r.keep (.ext s n)⟩
theorem ls_new {p : Addr} {vs : List V} {ds : List PyData} (hp : H p = none) (h : TpAll K H vs ds) : LsAt K (upd H p (.lst vs)) p ds := ⟨vs, upd_same, h.same (Same.new hp)⟩
/-- a sequence: a list of ours, a tuple -/
def Sq (K : PySem.W.Frag) (H : Hp) (v : V) (ds : List PyData) : Prop := (∃ l, v = .ref l ∧ LsAt K H l ds) ∨ Tp K H v (.tuple ds)
theorem Sq.same {v : V} {ds : List PyData} (h : Sq K H v ds) (s : Same H H') : Sq K H' v ds := h.elim (fun ⟨l, e, r⟩ => .inl ⟨l, e, r.same s⟩) fun h => .inr (h.same s)
theorem Sq.at {v : V} {ds : List PyData} (h : Sq K H v ds) : ∃ a xs, v = .ref a ∧ (SqL K H a xs ∨ SqT K H a xs) ∧ TpAll K H xs ds := by
  rcases h with ⟨l, rfl, xs, e, r⟩ | h
  · exact ⟨l, xs, rfl, .inl (SqL.of e), r⟩
  · obtain ⟨a, xs, e, h1, h2⟩ := h.tup_inv
    exact ⟨a, xs, e, .inr h1, h2⟩
theorem Sq.but {v : V} {ds : List PyData} {p l : Addr} {n : Nat} (h : Sq K H v ds) (hp : PenAt H p l n) (s : But p H H') : Sq K H' v ds := by
  rcases h with ⟨l, rfl, xs, e, r⟩ | h
  · obtain ⟨kvs, z⟩ := hp.some
    exact .inl ⟨l, rfl, xs, s _ _ e (ne_of e z (by intro q; cases q)), r.keep (.but s hp)⟩
  · exact .inr (h.keep (.but s hp))
end
/-- a pen where things at S have changed -/
theorem PenAt.ext {H H' : Hp} {p l : Addr} {n : Nat} {S : List Addr} (h : PenAt H p l n) (s : Ext S H H') (hp : p ∉ S) (hl : l ∉ S) : PenAt H' p l n := by
  obtain ⟨cells, t, d, c, f, h1, h2, r⟩ := h.ex
  exact ⟨cells, t, d, c, f, s _ _ h1 hp, s _ _ h2 hl, r⟩
/-- what is new is neither the pen nor its cells -/
theorem PenAt.ne {H : Hp} {p l q : Addr} {n : Nat} (h : PenAt H p l n) (hq : H q = none) : q ≠ p ∧ q ≠ l := by
  obtain ⟨kvs, e⟩ := h.some
  obtain ⟨xs, e2⟩ := h.list
  exact ⟨(ne_of_none e hq).symm, (ne_of_none e2 hq).symm⟩
/-- what a slice leaves of data -/
def cutD (ds : List PyData) (lo hi : Option Int) : List PyData := (ds.drop (HT.sIx ds.length 0 lo)).take (HT.sIx ds.length ds.length hi - HT.sIx ds.length 0 lo)
theorem cutD_ok {K : PySem.W.Frag} {H : Hp} {xs : List V} {ds : List PyData} (h : TpAll K H xs ds) (lo hi : Option Int) : TpAll K H (cutV xs lo hi) (cutD ds lo hi) := by
  unfold cutV cutD
  rw [h.length]
  exact (h.drop _).take _
theorem cut_whole {xs : List V} {lo hi : Option Int} (h : HT.sIx xs.length 0 lo = 0 ∧ HT.sIx xs.length xs.length hi = xs.length) : cutV xs lo hi = xs := by
  unfold cutV
  rw [h.1, h.2]
  simp
section
variable {X : Cx}
/-- t + u, tuples -/
def rCatS (K : PySem.W.Frag) : R2 := fun x y H Q => ∃ ds es, Tp K H x (.tuple ds) ∧ Tp K H y (.tuple es) ∧ ds.length + es.length ≤ sizeLine ∧ ∀ z H', Same H H' → Tp K H' z (.tuple (ds ++ es)) → Q z H'
theorem op_catS : OpR X (binaryOp .Add) (rCatS X.K) := by
  intro pins s σ H x y v u Q I rx ry h
  obtain ⟨ds, es, hx, hy, hz, q⟩ := h
  obtain ⟨a, xs, rfl, h1, r1⟩ := hx.tup_inv
  obtain ⟨b, ys, rfl, h2, r2⟩ := hy.tup_inv
  refine op_catA pins s σ H _ _ v u Q I rx ry ⟨a, b, xs, ys, rfl, rfl, h1, h2, by rw [r1.length, r2.length]; exact hz, fun e => ?_, fun e e2 => ?_, fun _ _ p hp => ?_⟩
  · subst e
    cases r1
    exact q _ H (Same.refl H) hy
  · subst e2
    cases r2
    rw [List.append_nil] at q
    exact q _ H (Same.refl H) hx
  · exact q _ _ (Same.new hp) (tp_new hp (r1.append r2))
/-- t[lo:hi] of a tuple -/
def rSlS (K : PySem.W.Frag) : V → Option Int → Option Int → Hp → VK → Prop := fun x lo hi H Q => ∃ ds, Tp K H x (.tuple ds) ∧ ∀ z H', Same H H' → Tp K H' z (.tuple (cutD ds lo hi)) → Q z H'
theorem sl_tupS : SlR X (rSlS X.K) := by
  intro pins s σ H x v vl vu lo hi sl Q I rx hs pl pu h
  obtain ⟨ds, hx, q⟩ := h
  obtain ⟨a, xs, rfl, h1, r1⟩ := hx.tup_inv
  refine sl_tupA pins s σ H _ v vl vu lo hi sl Q I rx hs pl pu ⟨a, xs, rfl, h1, fun e => ?_, fun _ p hp => ?_⟩
  · have z := cutD_ok r1 lo hi
    rw [cut_whole e] at z
    exact q _ H (Same.refl H) (.tup h1 z)
  · exact q _ _ (Same.new hp) (tp_new hp (cutD_ok r1 lo hi))
/-- xs[lo:hi] of a list: a new list -/
def rSlLS (K : PySem.W.Frag) : V → Option Int → Option Int → Hp → VK → Prop := fun x lo hi H Q => ∃ l ds, x = .ref l ∧ LsAt K H l ds ∧ ∀ p H', H p = none → Same H H' → LsAt K H' p (cutD ds lo hi) → Q (.ref p) H'
theorem sl_listS : SlR X (rSlLS X.K) := by
  intro pins s σ H x v vl vu lo hi sl Q I rx hs pl pu h
  obtain ⟨l, ds, rfl, ⟨xs, e, r⟩, q⟩ := h
  exact sl_list pins s σ H _ v vl vu lo hi sl Q I rx hs pl pu ⟨l, xs, rfl, SqL.of e, fun p hp => q p _ hp (Same.new hp) (ls_new hp (cutD_ok r lo hi))⟩
/-- s[i], s a list of ours or a tuple -/
def rIxS2 (K : PySem.W.Frag) : R2 := fun x y H Q => ∃ ds i d, Sq K H x ds ∧ y = .int i ∧ atI ds i = some d ∧ ∀ v, Tp K H v d → Q v H
theorem atI_ix {α : Type} {xs : List α} {i : Int} {v : α} (h : atI xs i = some v) : ∃ j, ixN xs.length i = some j ∧ xs[j]? = some v := by
  unfold atI at h
  cases e : ixN xs.length i with
  | none => rw [e] at h; cases h
  | some j => rw [e] at h; exact ⟨j, rfl, h⟩
theorem ix_sq : IxR X (rIxS2 X.K) := by
  intro value slice pins s σ H x y v u Q I rx ry h hs
  obtain ⟨ds, i, d, hx, rfl, he, q⟩ := h
  obtain ⟨a, xs, rfl, h1, r⟩ := hx.at
  obtain ⟨j, e1, e2⟩ := atI_ix he
  obtain ⟨w, e3, t⟩ := r.get e2
  have e4 : atI xs i = some w := by
    unfold atI
    rw [r.length, e1]
    exact e3
  rcases h1 with h1 | h1
  · exact ix_list value slice pins s σ H _ _ v u Q I rx ry ⟨a, xs, i, w, rfl, rfl, h1, e4, q w t⟩ hs
  · exact ix_tup value slice pins s σ H _ _ v u Q I rx ry ⟨a, xs, i, w, rfl, rfl, h1, e4, q w t⟩ hs
/-- len(s) -/
theorem call_lenS : CallR X (.builtin "len") (fun xs H Q => ∃ x ds, xs = [x] ∧ Sq X.K H x ds ∧ Q (.int ds.length) H) := by
  intro pins s σ H xs us Q I r h
  obtain ⟨x, ds, rfl, hx, q⟩ := h
  obtain ⟨a, ys, rfl, h1, r1⟩ := hx.at
  refine call_len_seq pins s σ H _ us Q I r ⟨a, ys, rfl, h1, ?_⟩
  rw [r1.length]
  exact q
/-- list(s) -/
theorem call_listS : CallR X (.type "list") (fun xs H Q => ∃ x ds, xs = [x] ∧ Sq X.K H x ds ∧ ∀ l H', H l = none → Same H H' → LsAt X.K H' l ds → Q (.ref l) H') := by
  intro pins s σ H xs us Q I r h
  obtain ⟨x, ds, rfl, hx, q⟩ := h
  obtain ⟨a, ys, rfl, h1, r1⟩ := hx.at
  exact call_list_of pins s σ H _ us Q I r ⟨a, ys, rfl, h1, fun l hl => q l _ hl (Same.new hl) (ls_new hl r1)⟩
/-- tuple(s) -/
theorem call_tupS : CallR X (.type "tuple") (fun xs H Q => ∃ x ds, xs = [x] ∧ Sq X.K H x ds ∧ ∀ z H', Same H H' → Tp X.K H' z (.tuple ds) → Q z H') := by
  intro pins s σ H xs us Q I r h
  obtain ⟨x, ds, rfl, hx, q⟩ := h
  obtain ⟨a, ys, rfl, h1, r1⟩ := hx.at
  rcases h1 with h1 | h1
  · exact call_tuple_of pins s σ H _ us Q I r ⟨a, ys, rfl, .inl ⟨h1, fun l hl => q _ _ (Same.new hl) (tp_new hl r1)⟩⟩
  · exact call_tuple_of pins s σ H _ us Q I r ⟨a, ys, rfl, .inr ⟨h1, q _ H (Same.refl H) (.tup h1 r1)⟩⟩
/-- == and != of two tuples (texts, ints, None) as data -/
theorem op_eqT (hu : X.A.units + 64 < cLine) : OpR X (compareOp .Eq) (fun x y H Q => ∃ d e, Tp X.K H x d ∧ Tp X.K H y e ∧ SeqAt.shaped d = true ∧ SeqAt.shaped e = true ∧ Q (.bl (PyData.eqv d e)) H) := by
  intro pins s σ H x y v u Q I rx ry h
  obtain ⟨d, e, hd, he, r⟩ := h
  exact op_eqD hu pins s σ H x y v u Q I rx ry ⟨d, e, hd.dp, he.dp, r⟩
theorem op_neT (hu : X.A.units + 64 < cLine) : OpR X (compareOp .NotEq) (fun x y H Q => ∃ d e, Tp X.K H x d ∧ Tp X.K H y e ∧ SeqAt.shaped d = true ∧ SeqAt.shaped e = true ∧ Q (.bl (!PyData.eqv d e)) H) := by
  intro pins s σ H x y v u Q I rx ry h
  obtain ⟨d, e, hd, he, r⟩ := h
  exact op_neD hu pins s σ H x y v u Q I rx ry ⟨d, e, hd.dp, he.dp, r⟩
end
end Og

set_option Elab.async false
set_option linter.all false
set_option maxRecDepth 100000
set_option maxHeartbeats 4000000
/-! Rules that the kit lacks: tuples known to be plain, dict() of such a tuple of pairs, a dict != {}, a text times an int, list() of a text. -/
namespace Og
open PySem PySem.Spec PyProof.Rows L2
/-- a tuple that has no dict of its own -/
def PkT (H : Hp) (a : Addr) (xs : List V) : Prop := ∃ o, H a = some (.frz o (.tup xs)) ∧ o.dict = none
def Pk (K : PySem.W.Frag) (H : Hp) (v : V) (ds : List PyData) : Prop := ∃ a xs, v = .ref a ∧ PkT H a xs ∧ TpAll K H xs ds
section
variable {K : PySem.W.Frag} {H H' : Hp}
theorem PkT.sq {a : Addr} {xs : List V} (h : PkT H a xs) : SqT K H a xs := let ⟨o, e, _⟩ := h; .inl (.inr ⟨o, e⟩)
theorem PkT.ext {a : Addr} {xs : List V} {S : List Addr} (h : PkT H a xs) (s : Ext S H H') (n : NoTup H S) : PkT H' a xs := let ⟨o, e, d⟩ := h; ⟨o, s _ _ e fun m => n a m xs (.inr ⟨o, e⟩), d⟩
theorem Pk.tp {v : V} {ds : List PyData} (h : Pk K H v ds) : Tp K H v (.tuple ds) := let ⟨_, _, e, p, r⟩ := h; by rw [e]; exact .tup p.sq r
theorem Pk.sq {v : V} {ds : List PyData} (h : Pk K H v ds) : Sq K H v ds := .inr h.tp
theorem Pk.ext {v : V} {ds : List PyData} {S : List Addr} (h : Pk K H v ds) (s : Ext S H H') (n : NoTup H S) : Pk K H' v ds := let ⟨a, xs, e, p, r⟩ := h; ⟨a, xs, e, p.ext s n, r.keep (.ext s n)⟩
theorem Pk.same {v : V} {ds : List PyData} (h : Pk K H v ds) (s : Same H H') : Pk K H' v ds := h.ext (S := []) (Ext.of s) NoTup.nil
theorem Pk.but {v : V} {ds : List PyData} {p l : Addr} {n : Nat} (h : Pk K H v ds) (hp : PenAt H p l n) (s : But p H H') : Pk K H' v ds := h.ext (Ext.but s) (.pen hp .nil)
end
section
variable {X : Cx} {es : List Expr} {pos : Pos}
/-- a tuple's display, known to be plain -/
def tTupP (t : TA) : TE := fun σ H Q => t σ H fun xs H1 => xs.length ≤ sizeLine ∧ ∀ p o, H1 p = none → o.dict = none → Q (.ref p) (upd H1 p (.frz o (.tup xs)))
theorem pe_tupP {t : TA} {x1} (h : PA X es t) : PE X (.Tuple es x1 pos) (tTupP t) := by
  refine ⟨fun pins s σ H Q I hq => ?_⟩
  refine wpAny_Tuple_spliced (thn (h.run pos pins s σ H _ I hq) fun us s1 ⟨xs, H1, I1, r, z, q⟩ => ⟨by rw [← r.length]; exact z, ?_⟩)
  have hf : H1 s1.heap.objs.size = none := I1.hok.fresh (Nat.le_refl _)
  refine ⟨.ref s1.heap.objs.size, upd H1 s1.heap.objs.size (.frz { cls := .type "tuple", data := .seq us.toArray } (.tup xs)), I1.laid (t' := s1.toks) (fun b u e => Heap.get?_push_of_some _ e) (Nat.le_refl _) ?_, rfl, q _ _ hf rfl⟩
  exact ⟨Heap.get?_push_size _ rfl, z, us, r, ⟨_, Heap.get?_push_size _ rfl, rfl, _, rfl⟩⟩
/-- t + u, u plain (and t, if it holds anything): plain -/
theorem op_catP : OpR X (binaryOp .Add) (fun x y H Q => ∃ ds es, Tp X.K H x (.tuple ds) ∧ Pk X.K H y es ∧ es ≠ [] ∧ ds.length + es.length ≤ sizeLine ∧ ∀ z H', Same H H' → Pk X.K H' z (ds ++ es) → Q z H') := by
  intro pins s σ H x y v u Q I rx ry h
  obtain ⟨ds, es, hx, hy, hne, hz, q⟩ := h
  obtain ⟨a, xs, rfl, h1, r1⟩ := hx.tup_inv
  obtain ⟨b, ys, rfl, h2, r2⟩ := hy
  have l1 := r1.length
  have l2 := r2.length
  by_cases hxs : xs = []
  · subst hxs
    refine op_catA pins s σ H _ _ v u Q I rx ry ⟨a, b, [], ys, rfl, rfl, h1, h2.sq, by rw [l2]; simp at hz ⊢; omega, fun _ => ?_, fun e => absurd rfl e, fun e => absurd rfl e⟩
    cases r1
    exact q _ H (Same.refl H) ⟨b, ys, rfl, h2, r2⟩
  · cases rx
    cases ry
    obtain ⟨its, v1, p1, _⟩ := I.tuple h1
    obtain ⟨its2, v2, p2, _⟩ := I.tuple (h2.sq (K := X.K))
    have hys : ys ≠ [] := fun e => by
      subst e
      cases r2
      exact hne rfl
    refine HT.cat_tup p1 p2 (fun z => hxs (v1.nil_iff.mp z)) (fun z => absurd (v2.nil_iff.mp z) hys) (fun z => ?_) (by rw [← v1.length, ← v2.length, l1, l2]; exact hz)
    have hf := I.hok.fresh (Nat.le_refl s.heap.objs.size)
    refine ⟨.ref s.heap.objs.size, _, I.laid (t' := s.toks) (o := .frz { cls := .type "tuple", data := .seq (its ++ its2).toArray } (.tup (xs ++ ys))) (fun b ob q => Heap.get?_push_of_some _ q) (Nat.le_refl _) ?_, rfl, q _ _ (Same.new hf) ⟨_, _, rfl, ⟨_, upd_same, rfl⟩, (r1.append r2).same (Same.new hf)⟩⟩
    exact ⟨Heap.get?_push_size _ rfl, by rw [List.length_append, l1, l2]; exact hz, _, v1.append v2, IsTup.new _ _⟩
/-- the pairs of a tuple, as the kit's dict() wants them -/
theorem pairs_val {pins : List (Addr × Obj)} {σ : L2.St} {H : Hp} {s : Shared} (I : Inv X pins σ H s) : ∀ {ps : List Addr} {kvs : List (Key × V)}, Paired (fun p kv => SqT X.K H p [kV kv.1, kv.2]) ps kvs →
    ∃ (pv : List (Value × Value)) (prs : List (Key × Value)), KV kvs prs ∧ pv.length = ps.length ∧ prs.length = ps.length ∧
      (∀ (j : Nat) (k v : Value), pv[j]? = some (k, v) → (∃ b, ps[j]? = some b ∧ PairAt s.heap b k v) ∧ ∃ kk, prs[j]? = some (kk, v) ∧ (mixKind X.prog X.w).is kk k = true)
  | _, _, .nil => ⟨[], [], .nil, rfl, rfl, fun j k v e => by simp at e⟩
  | _, _, .cons (a := p) (b := kv) h t => by
    obtain ⟨pv, prs, r, l1, l2, hp⟩ := pairs_val I t
    obtain ⟨its, rv, ht, _⟩ := I.tuple h
    obtain ⟨u, y, ei, ru, ry⟩ := vals2 rv
    subst ei
    refine ⟨(u, y) :: pv, (kv.1, y) :: prs, .cons ⟨rfl, ry⟩ r, by rw [List.length_cons, List.length_cons, l1], by rw [List.length_cons, List.length_cons, l2], fun j k v e => ?_⟩
    cases j with
    | zero =>
      have e' : (u, y) = (k, v) := Option.some.inj e
      cases e'
      exact ⟨⟨p, rfl, .inl ht⟩, kv.1, rfl, kV_is (P := X.prog) (w := X.w) ru⟩
    | succ j =>
      obtain ⟨⟨b, e1, e2⟩, kk, e3, e4⟩ := hp j k v (by simpa using e)
      exact ⟨⟨b, by simpa using e1, e2⟩, kk, by simpa using e3, e4⟩
/-- dict(t), t a plain tuple of pairs -/
theorem call_dict_tup (hcalm : X.calm = true) : CallR X (.type "dict") (fun xs H Q => ∃ (a : Addr) (ps : List Addr) (kvs : List (Key × V)), xs = [.ref a] ∧ PkT H a (ps.map V.ref) ∧ Paired (fun p kv => SqT X.K H p [kV kv.1, kv.2]) ps kvs ∧
    ∀ p, H p = none → Q (.ref p) (upd H p (.dK (mergeK [] kvs)))) := by
  intro pins s σ H xs us Q I r q
  obtain ⟨a, ps, kvs, ex, hq, hp, q⟩ := q
  subst ex
  obtain ⟨u, eu, rx⟩ := vals1 r
  subst eu
  cases rx
  obtain ⟨o, ha, hd⟩ := hq
  obtain ⟨ho, z, its, rv, o2, ho2, hc, n, hdat⟩ := (show ObjOk X.prog X.w H s.heap a (.frz o (.tup (ps.map V.ref))) from I.hok a _ ha)
  obtain rfl : o = o2 := Option.some.inj (ho.symm.trans ho2)
  have ei := refs_at rv
  subst ei
  rw [List.length_map] at z
  obtain ⟨pv, prs, rel, l1, l2, hpr⟩ := pairs_val I hp
  have hm : (s.heap.objs.size == sysModules) = false := beq_eq_false_iff_ne.mpr (Nat.ne_of_gt I.big)
  have PA := PairArg.tuple (prog := X.prog) (w := X.w) a (ps.map Value.ref).toArray (fun j => ps.getD j 0) pv
  have ok : PlainSeq "tuple" s.heap a (ps.map Value.ref).toArray ∧ PairItems s.heap (ps.map Value.ref).toArray (fun j => ps.getD j 0) pv := by
    refine ⟨⟨o, n, ho, hc, hd, hdat⟩, by simp [l1], fun j k v e => ?_⟩
    obtain ⟨⟨b, e1, e2⟩, _⟩ := hpr j k v e
    have e3 : ps.getD j 0 = b := by rw [List.getD_eq_getElem?_getD, e1]; rfl
    show (ps.map Value.ref).toArray[j]? = some (Value.ref (ps.getD j 0)) ∧ PairAt s.heap (ps.getD j 0) k v
    rw [e3]
    exact ⟨by simp [e1], e2⟩
  refine call_dict_pairs (knd := mixKind X.prog X.w) (kvs := prs) PA (I.ok.hd hcalm) ok ⟨by rw [l1, l2], fun j k v e => ?_⟩ (by rw [l1]; exact z) fun h' tk hd' k => ?_
  · obtain ⟨_, kk, e3, e4⟩ := hpr j k v e
    exact ⟨kk, e3, e4⟩
  · have hlen : (mergeK [] kvs).length ≤ sizeLine := by
      refine Nat.le_trans (length_mergeK kvs []) ?_
      rw [List.length_nil, Nat.zero_add, rel.length, l2]
      exact z
    exact ⟨.ref s.heap.objs.size, upd H s.heap.objs.size (.dK (mergeK [] kvs)), I.laid (t' := tk) (fun b o e => k b o (by simp) e) (Nat.le_refl _) (show ObjOk X.prog X.w _ _ _ (.dK (mergeK [] kvs)) from ⟨hlen, hm, merged [] prs, KV.merge rel .nil, hd'⟩), rfl, q _ (I.hok.fresh (Nat.le_refl _))⟩
theorem mergeK_new : ∀ (kvs acc : List (Key × V)), ((acc ++ kvs).map (·.1)).Nodup → mergeK acc kvs = acc ++ kvs
  | [], acc, _ => by
    show acc = acc ++ []
    rw [List.append_nil]
  | kv :: r, acc, h => by
    have hn : ¬ (acc.any fun p => decide (p.1 = kv.1)) = true := by
      intro e
      obtain ⟨p, hp, e⟩ := List.any_eq_true.mp e
      rw [List.map_append, List.nodup_append] at h
      exact h.2.2 p.1 (List.mem_map.mpr ⟨p, hp, rfl⟩) kv.1 (List.mem_map.mpr ⟨kv, List.mem_cons_self, rfl⟩) (of_decide_eq_true e)
    have e : putK acc kv.1 kv.2 = acc ++ [kv] := by
      unfold putK
      rw [if_neg hn]
    show mergeK (putK acc kv.1 kv.2) r = _
    rw [e, mergeK_new r (acc ++ [kv]) (by rw [List.append_assoc]; exact h), List.append_assoc]
    rfl
/-- a dict of texts, its values as data -/
def DcAt (K : PySem.W.Frag) (H : Hp) (a : Addr) (ds : List (Str × PyData)) : Prop := ∃ kvs : List (Key × V), H a = some (.dK kvs) ∧ Paired (fun (d : Str × PyData) (kv : Key × V) => kv.1 = .inr d.1 ∧ Tp K H kv.2 d.2) ds kvs
theorem pairs_tp {K : PySem.W.Frag} {H : Hp} : ∀ {xs : List V} {ds : List (Str × PyData)}, TpAll K H xs (ds.map fun d => .tuple [.str d.1, d.2]) →
    ∃ (ps : List Addr) (kvs : List (Key × V)), xs = ps.map V.ref ∧ Paired (fun p kv => SqT K H p [kV kv.1, kv.2]) ps kvs ∧ Paired (fun (d : Str × PyData) (kv : Key × V) => kv.1 = .inr d.1 ∧ Tp K H kv.2 d.2) ds kvs
  | _, [], h => by
    cases h
    exact ⟨[], [], rfl, .nil, .nil⟩
  | _, d :: r, h => by
    cases h with
    | cons h1 h2 =>
      obtain ⟨ps, kvs, e, p1, p2⟩ := pairs_tp h2
      obtain ⟨a, ys, e1, sq, t⟩ := h1.tup_inv
      cases t with
      | cons t1 t2 =>
        cases t2 with
        | cons t2 t3 =>
          cases t3
          have e2 := t1.str_inv
          subst e2
          exact ⟨a :: ps, (.inr d.1, _) :: kvs, by rw [e1, e]; rfl, .cons sq p1, .cons ⟨rfl, t2⟩ p2⟩
theorem Paired.fst {α β γ : Type} {F : α → β → Prop} {f : α → γ} {g : β → γ} (h : ∀ a b, F a b → f a = g b) : ∀ {xs : List α} {ys : List β}, Paired F xs ys → xs.map f = ys.map g
  | _, _, .nil => rfl
  | _, _, .cons r t => by rw [List.map_cons, List.map_cons, h _ _ r, Paired.fst h t]
/-- dict(t) of pairs whose first parts are texts, no two alike -/
theorem call_dictT (hcalm : X.calm = true) : CallR X (.type "dict") (fun xs H Q => ∃ v ds, xs = [v] ∧ Pk X.K H v (ds.map fun d : Str × PyData => .tuple [.str d.1, d.2]) ∧ (ds.map (·.1)).Nodup ∧ ∀ p H', H p = none → Same H H' → DcAt X.K H' p ds → Q (.ref p) H') := by
  intro pins s σ H xs us Q I r q
  obtain ⟨v, ds, ex, ⟨a, ys, rfl, pk, t⟩, nd, q⟩ := q
  obtain ⟨ps, kvs, e, p1, p2⟩ := pairs_tp t
  subst e
  refine call_dict_tup hcalm pins s σ H xs us Q I r ⟨a, ps, kvs, ex, pk, p1, fun p hp => q p _ hp (Same.new hp) ?_⟩
  have ek : kvs.map (·.1) = (ds.map (·.1)).map Sum.inr := by
    rw [List.map_map]
    exact (Paired.fst (f := fun d : Str × PyData => (Sum.inr d.1 : Key)) (g := fun kv : Key × V => kv.1) (fun a b h => h.1.symm) p2).symm
  have nd2 : (kvs.map (·.1)).Nodup := by
    rw [ek]
    exact nd.map (f := Sum.inr) (fun a b h e => h (Sum.inr.inj e))
  rw [mergeK_new kvs [] (by simpa using nd2), List.nil_append]
  exact ⟨kvs, upd_same, Paired.mapP p2 fun _ _ z => ⟨z.1, z.2.same (Same.new hp)⟩⟩
/-- d != {} -/
theorem op_neD0 (hu : X.A.units < cLine) : OpR X (compareOp .NotEq) (fun x y H Q => ∃ a b ks, x = .ref a ∧ y = .ref b ∧ H a = some (.dK ks) ∧ H b = some (.dK []) ∧ Q (.bl (decide (ks ≠ []))) H) := by
  intro pins s σ H x y v u Q I rx ry h
  obtain ⟨a, b, ks, rfl, rfl, ea, eb, q⟩ := h
  obtain rfl : v = Value.ref a := rx
  obtain rfl : u = Value.ref b := ry
  obtain ⟨_, ya, va, ra, da⟩ := (show ObjOk X.prog X.w H s.heap a (.dK ks) from I.hok a _ ea)
  obtain ⟨_, yb, vb, rb, db⟩ := (show ObjOk X.prog X.w H s.heap b (.dK []) from I.hok b _ eb)
  cases rb
  have hl := ra.length
  refine PySem.W.keq_ne (knd := mixKind X.prog X.w) (r := true) ya yb da db hu (fun e => ?_) (fin_bl I q ?_)
  · have e0 : ks = [] := List.eq_nil_of_length_eq_zero (by rw [hl, e]; rfl)
    subst e0
    exact hits_all .nil ra (fun p hp => by simp at hp)
  · cases ks with
    | nil =>
      have e0 : va = [] := List.eq_nil_of_length_eq_zero (by rw [← hl]; rfl)
      subst e0
      rfl
    | cons k r =>
      cases va with
      | nil => simp at hl
      | cons _ _ => simp
end
/-- a text said n times -/
def repS (x : Str) (n : Nat) : Str := ⟨(List.replicate n x.cps).foldl (· ++ ·) #[]⟩
section
variable {X : Cx}
/-- s * n, for n from 2 on, s not empty -/
theorem op_repS : OpR X (binaryOp .Mult) (fun x y H Q => ∃ (z : Str) (n : Nat), x = .str z ∧ y = .int n ∧ 2 ≤ n ∧ z.length ≠ 0 ∧ z.length * n ≤ 1000 ∧ (repS z n).length ≤ sizeLine ∧ Q (.str (repS z n)) H) := by
  intro pins s σ H x y v u Q I rx ry h
  obtain ⟨z, n, rfl, rfl, hn, hz, hl, hq, q⟩ := h
  obtain ⟨t, rfl⟩ := rx
  obtain ⟨t2, rfl⟩ := ry
  have h1 : z.length ≤ 1000 := by
    have : z.length * 1 ≤ z.length * n := Nat.mul_le_mul_left _ (by omega)
    omega
  have h2 : n ≤ 1000 := by
    have : 1 * n ≤ z.length * n := Nat.mul_le_mul_right _ (by omega)
    omega
  have g1 : ¬ ((n : Int) < 1) := by omega
  have g2 : ¬ ((((n : Int) == 1) || z.length == 0) = true) := by
    simp only [Bool.or_eq_true, beq_iff_eq]
    omega
  refine P.mul_str ?_ (fun _ _ => ?_) (fun _ _ => ?_) ?_
  · rw [decide_eq_false (by omega), decide_eq_false (by omega)]
    rfl
  · have h3 : (1000 : Int) ≤ (2 ^ 63 - 1) / (n : Int) := by
      rw [Int.le_ediv_iff_mul_le (by omega)]
      omega
    omega
  · have h3 : (1000 : Nat) ≤ sizeLine := by decide
    show decide (z.length * (n : Int).toNat > sizeLine) = false
    rw [Int.toNat_natCast]
    exact decide_eq_false (by omega)
  · rw [if_neg g1, if_neg g2]
    refine ⟨by rw [Int.toNat_natCast]; exact hq, ?_⟩
    rw [Int.toNat_natCast]
    exact ⟨.str (repS z n), H, I.tok _, ⟨_, rfl⟩, q⟩
/-- list(s) of a text: its signs -/
theorem call_listT (hcalm : X.calm = true) : CallR X (.type "list") (fun xs H Q => ∃ z : Str, xs = [.str z] ∧ z.length ≤ sizeLine ∧ ∀ l H', H l = none → Same H H' → LsAt X.K H' l ((PyProof.Rows.signs z).map PyData.str) → Q (.ref l) H') := by
  intro pins s σ H xs us Q I r h
  obtain ⟨z, rfl, hz, q⟩ := h
  obtain ⟨u, rfl, rx⟩ := vals1 r
  obtain ⟨t, rfl⟩ := rx
  refine call_list_str (I.ok.hd hcalm) z t (fun h' tk acc' c' hk hS' hacc => ?_) hz
  have hf := I.hok.fresh (Nat.le_refl s.heap.objs.size)
  have rv : Vals ((PyProof.Rows.signs z).map V.str) acc'.toList := by
    have key : ∀ (cs : List Nat) (vs : List Value), vs.length = cs.length → (∀ (j : Nat) (v : Value), vs[j]? = some v → ∃ (c : Nat) (u : Nat), cs[j]? = some c ∧ v = Value.str ⟨#[c]⟩ u) → Vals (cs.map fun c => V.str ⟨#[c]⟩) vs := by
      intro cs
      induction cs with
      | nil =>
        intro vs hl _
        rw [List.eq_nil_of_length_eq_zero hl]
        exact .nil
      | cons c cs ih =>
        intro vs hl hv
        cases vs with
        | nil => simp at hl
        | cons v vs =>
          obtain ⟨c', u, e1, e2⟩ := hv 0 v rfl
          cases e1
          exact .cons ⟨u, e2⟩ (ih vs (by simpa using hl) fun j v e => by simpa using hv (j + 1) v (by simpa using e))
    have k2 := key z.cps.toList acc'.toList (by simpa using hacc.1) fun j v e => by
      obtain ⟨c, u, e1, e2⟩ := hacc.2 j v (by simpa using e)
      exact ⟨c, u, by simpa using e1, e2⟩
    rw [show (PyProof.Rows.signs z).map V.str = z.cps.toList.map fun c => V.str ⟨#[c]⟩ by simp [PyProof.Rows.signs]]
    exact k2
  refine ⟨.ref s.heap.objs.size, _, I.laid (t' := tk) (o := .lst ((PyProof.Rows.signs z).map V.str)) (fun b o e => hk b o e) (Nat.le_refl _) ?_, rfl, q _ _ hf (Same.new hf) (ls_new hf (tpAll_strs _))⟩
  exact ⟨by simpa [PyProof.Rows.signs_length] using hz, _, c', rv, by simpa using hS'⟩
end
section
variable {X : Cx}
/-- a list + a list -/
theorem op_catL : OpR X (binaryOp .Add) (fun x y H Q => ∃ l m ds es, x = .ref l ∧ y = .ref m ∧ LsAt X.K H l ds ∧ LsAt X.K H m es ∧ ds.length + es.length ≤ sizeLine ∧ ∀ p H', H p = none → Same H H' → LsAt X.K H' p (ds ++ es) → Q (.ref p) H') := by
  intro pins s σ H x y v u Q I rx ry h
  obtain ⟨l, m, ds, es, rfl, rfl, ⟨xs, e1, t1⟩, ⟨ys, e2, t2⟩, hz, q⟩ := h
  exact op_cat pins s σ H _ _ v u Q I rx ry ⟨l, m, xs, ys, rfl, rfl, e1, e2, by rw [t1.length, t2.length]; exact hz, fun p hp => q p _ hp (Same.new hp) (ls_new hp (t1.append t2))⟩
/-- a list * n -/
theorem op_repL : OpR X (binaryOp .Mult) (fun x y H Q => ∃ (l : Addr) (n : Nat) (ds : List PyData), x = .ref l ∧ y = .int n ∧ LsAt X.K H l ds ∧ n < 2 ^ 63 ∧ ds.length * n ≤ sizeLine ∧ ∀ p H', H p = none → Same H H' → LsAt X.K H' p (List.replicate n ds).flatten → Q (.ref p) H') := by
  intro pins s σ H x y v u Q I rx ry h
  obtain ⟨l, n, ds, rfl, rfl, ⟨xs, e1, t1⟩, hn, hz, q⟩ := h
  refine op_rep pins s σ H _ _ v u Q I rx ry ⟨l, n, xs, rfl, rfl, e1, by omega, by omega, by rw [Int.toNat_natCast, t1.length]; exact hz, fun p hp => q p _ hp (Same.new hp) (ls_new hp ?_)⟩
  rw [Int.toNat_natCast]
  exact t1.flat n
/-- sorted(d) of a dict of texts -/
theorem call_sortedT (hcalm : X.calm = true) : CallR X (.builtin "sorted") (fun xs H Q => ∃ a ks, xs = [.ref a] ∧ (∃ kvs : List (Key × V), H a = some (.dK kvs) ∧ kvs.map (·.1) = ks.map Sum.inr) ∧ ks.length < 64 ∧ ∀ ys p H', ys.Perm ks → sortedS ys = true → H p = none → Same H H' → LsAt X.K H' p (ys.map PyData.str) → Q (.ref p) H') := by
  intro pins s σ H xs us Q I r q
  obtain ⟨a, ks, ex, ⟨kvs, e, hk⟩, h64, q⟩ := q
  exact call_sortedD hcalm pins s σ H xs us Q I r ⟨a, kvs, ks, ex, .inl e, hk, h64, fun ys p hy hs hp => q ys p _ hy hs hp (Same.new hp) (ls_new hp (tpAll_strs ys))⟩
end
end Og

set_option Elab.async false
set_option linter.all false
set_option maxRecDepth 100000
set_option maxHeartbeats 4000000
/-! The drawn book as Lean data, what is right about it. -/
namespace Og
open PySem PySem.Spec PyProof.Rows L2
inductive Tm | any (x : Str) | item (x : Str)
structure Atm where
  name : Str
  terms : List Tm
inductive Pt
  | so (a : Atm)
  | no (a : Atm)
  | same (s t : Tm)
  | other (s t : Tm)
inductive Fm
  | rule (h : Atm) (b : List Pt)
  | may (h : Atm) (b : List Pt)
  | never (b : List Pt)
  | cost (n m : Int) (b : List Pt)
abbrev Kds := List (Str × List Str)
structure Bk where
  kinds : Kds
  tells : Kds
  says : List (Str × Fm)
def strsD (xs : List Str) : PyData := .tuple (xs.map .str)
def Tm.d : Tm → PyData
  | .any x => .tuple [.str "any", .str x]
  | .item x => .tuple [.str "item", .str x]
def termsD (ts : List Tm) : PyData := .tuple (ts.map Tm.d)
def Atm.ds (a : Atm) : List PyData := [.str a.name, termsD a.terms]
def Atm.d (a : Atm) : PyData := .tuple a.ds
def Pt.ds : Pt → List PyData
  | .so a => [.str "so", .str a.name, termsD a.terms]
  | .no a => [.str "not", .str a.name, termsD a.terms]
  | .same s t => [.str "same", s.d, t.d]
  | .other s t => [.str "other", s.d, t.d]
def Pt.d (p : Pt) : PyData := .tuple p.ds
def bodyDs (b : List Pt) : List PyData := b.map Pt.d
def bodyD (b : List Pt) : PyData := .tuple (bodyDs b)
def Fm.ds : Fm → List PyData
  | .rule h b => [.str "rule", h.d, bodyD b]
  | .may h b => [.str "may", h.d, bodyD b]
  | .never b => [.str "never", bodyD b]
  | .cost n m b => [.str "cost", .tuple [.int n, .int m], bodyD b]
def Fm.d (f : Fm) : PyData := .tuple f.ds
def kindsDs (ks : Kds) : List PyData := ks.map fun k => .tuple [.str k.1, strsD k.2]
def kindsD (ks : Kds) : PyData := .tuple (kindsDs ks)
def saysDs (ss : List (Str × Fm)) : List PyData := ss.map fun s => .tuple [.str s.1, s.2.d]
def Bk.d (b : Bk) : PyData := .tuple [kindsD b.kinds, kindsD b.tells, .tuple (saysDs b.says)]
/-- the dict that tells what stands for what -/
abbrev Kw := List (Str × Str)
def kwKV (kw : Kw) : List (Key × V) := kw.map fun e => (.inr e.1, .str e.2)
def KnAt (H : Hp) (a : Addr) (kw : Kw) : Prop := H a = some (.dK (kwKV kw))
def freshNames : List Str := ["X", "Y", "Z", "m", "if_x"]
def itemNames : List Str := ["ann", "bob", "cid", "rome", "x_1", "may_1", "Y2"]
def kindNames : List Str := ["man", "city", "k"]
def tellNames : List Str := ["p", "q", "r", "near", "old", "rain", "r0"]
def sayNames : List Str := ["s1", "s2", "p", "s0", "man", "r0", "X", "t_1", "u", "w9", "v", "far", "Q", "ann", "b2", "zz"]
structure KdsOk (ks : Kds) : Prop where
  ne : ks ≠ []
  len : ks.length ≤ 2
  nd : (ks.map (·.1)).Nodup
  name : ∀ k ∈ ks, k.1 ∈ kindNames
  some : ∀ k ∈ ks, k.2 ≠ [] ∧ k.2.length ≤ 3
  items : (ks.flatMap (·.2)).Nodup
  item : ∀ k ∈ ks, ∀ i ∈ k.2, i ∈ itemNames
def manyOf (ks : Kds) (k : Str) : Nat := ((ks.lookup k).getD []).length
def sizeAt (ks : Kds) : List Str → Nat
  | [] => 1
  | k :: r => sizeAt ks r * manyOf ks k
def sizeAll (ks tl : Kds) : Nat := (tl.map fun t => sizeAt ks t.2).sum
structure TlsOk (ks tl : Kds) : Prop where
  ne : tl ≠ []
  len : tl.length ≤ 5
  nd : (tl.map (·.1)).Nodup
  name : ∀ t ∈ tl, t.1 ∈ tellNames
  two : ∀ t ∈ tl, t.2.length ≤ 2
  kind : ∀ t ∈ tl, ∀ k ∈ t.2, k ∈ ks.map (·.1)
  size : sizeAll ks tl ≤ 8
structure KwOk (ks : Kds) (kw : Kw) : Prop where
  nd : (kw.map (·.1)).Nodup
  name : ∀ e ∈ kw, e.1 ∈ freshNames
  kind : ∀ e ∈ kw, e.2 ∈ ks.map (·.1)
def TmOk (ks : Kds) (kw : Kw) (k : Str) : Tm → Prop
  | .any x => (x, k) ∈ kw
  | .item i => ∃ its, (k, its) ∈ ks ∧ i ∈ its
def TmsOk (ks : Kds) (kw : Kw) : List Str → List Tm → Prop
  | [], [] => True
  | k :: ps, t :: ts => TmOk ks kw k t ∧ TmsOk ks kw ps ts
  | _, _ => False
def AtmOk (ks tl : Kds) (kw : Kw) (a : Atm) : Prop := ∃ ps, (a.name, ps) ∈ tl ∧ TmsOk ks kw ps a.terms
def PtOk (ks tl : Kds) (kw : Kw) : Pt → Prop
  | .so a => AtmOk ks tl kw a
  | .no a => AtmOk ks tl kw a
  | .same s t => ∃ k, TmOk ks kw k s ∧ TmOk ks kw k t
  | .other s t => ∃ k, TmOk ks kw k s ∧ TmOk ks kw k t
theorem TmOk.mono {ks : Kds} {kw : Kw} {k : Str} {t : Tm} (h : TmOk ks kw k t) (more : Kw) : TmOk ks (kw ++ more) k t := by
  cases t with
  | any x => exact List.mem_append_left _ h
  | item i => exact h
theorem TmsOk.mono {ks : Kds} {kw : Kw} (more : Kw) : ∀ {ps : List Str} {ts : List Tm}, TmsOk ks kw ps ts → TmsOk ks (kw ++ more) ps ts
  | [], [], _ => True.intro
  | _ :: _, _ :: _, h => ⟨TmOk.mono h.1 more, TmsOk.mono more h.2⟩
  | [], _ :: _, h => h.elim
  | _ :: _, [], h => h.elim
theorem TmsOk.length {ks : Kds} {kw : Kw} : ∀ {ps : List Str} {ts : List Tm}, TmsOk ks kw ps ts → ts.length = ps.length
  | [], [], _ => rfl
  | _ :: _, _ :: _, h => by rw [List.length_cons, List.length_cons, TmsOk.length h.2]
  | [], _ :: _, h => h.elim
  | _ :: _, [], h => h.elim
theorem TmsOk.snoc {ks : Kds} {kw : Kw} {k : Str} {t : Tm} (h2 : TmOk ks kw k t) : ∀ {ps : List Str} {ts : List Tm}, TmsOk ks kw ps ts → TmsOk ks kw (ps ++ [k]) (ts ++ [t])
  | [], [], _ => ⟨h2, True.intro⟩
  | _ :: _, _ :: _, h => ⟨h.1, TmsOk.snoc h2 h.2⟩
  | [], _ :: _, h => h.elim
  | _ :: _, [], h => h.elim
theorem AtmOk.mono {ks tl : Kds} {kw : Kw} {a : Atm} (h : AtmOk ks tl kw a) (more : Kw) : AtmOk ks tl (kw ++ more) a := let ⟨ps, h1, h2⟩ := h; ⟨ps, h1, h2.mono more⟩
theorem PtOk.mono {ks tl : Kds} {kw : Kw} {a : Pt} (h : PtOk ks tl kw a) (more : Kw) : PtOk ks tl (kw ++ more) a := by
  cases a with
  | so a => exact AtmOk.mono h more
  | no a => exact AtmOk.mono h more
  | same s t => obtain ⟨k, h1, h2⟩ := h; exact ⟨k, h1.mono more, h2.mono more⟩
  | other s t => obtain ⟨k, h1, h2⟩ := h; exact ⟨k, h1.mono more, h2.mono more⟩
def Fm.body : Fm → List Pt
  | .rule _ b => b
  | .may _ b => b
  | .never b => b
  | .cost _ _ b => b
def Fm.head : Fm → List Atm
  | .rule h _ => [h]
  | .may h _ => [h]
  | .never _ => []
  | .cost _ _ _ => []
def Pt.atom : Pt → List Atm
  | .so a => [a]
  | .no a => [a]
  | .same _ _ => []
  | .other _ _ => []
def atomsIn (b : List Pt) : List Atm := b.flatMap Pt.atom
def Fm.atoms (f : Fm) : List Atm := f.head ++ atomsIn f.body
def costs : List (Int × Int) := [(1, 1), (1, 2), (3, 1), (0, 1), (2, 3)]
/-- a form that is drawn -/
structure FmOk (ks tl : Kds) (f : Fm) : Prop where
  kw : ∃ kw, KwOk ks kw ∧ (∀ e ∈ kw, ∃ a ∈ f.atoms, Tm.any e.1 ∈ a.terms) ∧ (∀ a ∈ f.head, AtmOk ks tl kw a) ∧ ∀ p ∈ f.body, PtOk ks tl kw p
  len : f.body.length ≤ 5
  cost : ∀ n m b, f = .cost n m b → (n, m) ∈ costs
/-- a book that is drawn -/
structure BkOk (m : Nat) (b : Bk) : Prop where
  kinds : KdsOk b.kinds
  tells : TlsOk b.kinds b.tells
  says : ∀ s ∈ b.says, FmOk b.kinds b.tells s.2
  nd : (b.says.map (·.1)).Nodup
  name : ∀ s ∈ b.says, s.1 ∈ sayNames
  ne : b.says ≠ []
  len : b.says.length ≤ m + 2
/-- a list that is another's in another order, as data -/
theorem perm_map {α β : Type} {f : α → β} : ∀ {l1 l2 : List β}, l1.Perm l2 → ∀ xs, l2 = xs.map f → ∃ ys : List α, l1 = ys.map f ∧ ys.Perm xs := by
  intro l1 l2 h
  induction h with
  | nil =>
    intro xs e
    have e0 : xs = [] := by cases xs with | nil => rfl | cons _ _ => simp at e
    subst e0
    exact ⟨[], rfl, .refl _⟩
  | cons x _ ih =>
    intro xs e
    cases xs with
    | nil => simp at e
    | cons y ys =>
      rw [List.map_cons] at e
      injection e with e1 e2
      obtain ⟨zs, r1, r2⟩ := ih ys e2
      exact ⟨y :: zs, by rw [r1, e1]; rfl, r2.cons y⟩
  | swap x y l =>
    intro xs e
    match xs, e with
    | a :: b :: zs, e =>
      rw [List.map_cons, List.map_cons] at e
      injection e with e1 e2
      injection e2 with e2 e3
      exact ⟨b :: a :: zs, by rw [List.map_cons, List.map_cons, ← e1, ← e2, ← e3], .swap _ _ _⟩
  | trans _ _ ih1 ih2 =>
    intro xs e
    obtain ⟨ys, r1, r2⟩ := ih2 xs e
    obtain ⟨zs, r3, r4⟩ := ih1 ys r1
    exact ⟨zs, r3, r4.trans r2⟩
theorem mem_map_str {xs : List Str} {d : PyData} (h : d ∈ xs.map PyData.str) : ∃ x ∈ xs, d = .str x := by
  obtain ⟨x, h1, h2⟩ := List.mem_map.mp h
  exact ⟨x, h1, h2.symm⟩
theorem kwKV_len {kw : Kw} : (kwKV kw).length = kw.length := List.length_map ..
theorem kwKV_val {kw : Kw} {x : Str} : valV (kwKV kw) (.inr x) = (kw.lookup x).map V.str := by
  induction kw with
  | nil => rfl
  | cons e r ih =>
    show valV ((.inr e.1, .str e.2) :: kwKV r) (.inr x) = _
    rw [List.lookup_cons]
    by_cases h : e.1 = x
    · rw [valV_pos (by rw [h]), h, beq_self_eq_true]
      rfl
    · rw [valV_neg (fun z => h (Sum.inr.inj z)), ih, beq_eq_false_iff_ne.mpr (Ne.symm h)]
theorem KwOk.len {ks : Kds} {kw : Kw} (h : KwOk ks kw) : kw.length ≤ 5 := by
  have z : (kw.map (·.1)).length ≤ freshNames.length := by
    refine List.Nodup.length_le_of_subset h.nd fun x hx => ?_
    obtain ⟨e, he, rfl⟩ := List.mem_map.mp hx
    exact h.name e he
  rw [List.length_map] at z
  exact z
theorem lookup_mem {α β : Type} [BEq α] [LawfulBEq α] : ∀ {xs : List (α × β)} {x : α} {y : β}, xs.lookup x = some y → (x, y) ∈ xs
  | [], _, _, h => by cases h
  | e :: r, x, y, h => by
    rw [List.lookup_cons] at h
    split at h
    · rename_i q
      rw [beq_iff_eq.mp q]
      cases h
      exact List.mem_cons_self
    · exact List.mem_cons_of_mem _ (lookup_mem h)
theorem mem_lookup {α β : Type} [BEq α] [LawfulBEq α] : ∀ {xs : List (α × β)} {x : α} {y : β}, (xs.map (·.1)).Nodup → (x, y) ∈ xs → xs.lookup x = some y
  | [], _, _, _, h => by cases h
  | e :: r, x, y, nd, h => by
    rw [List.map_cons, List.nodup_cons] at nd
    rw [List.lookup_cons]
    rcases List.mem_cons.mp h with rfl | h
    · rw [beq_self_eq_true]
    · have : ¬ x = e.1 := fun q => nd.1 (List.mem_map.mpr ⟨_, h, q⟩)
      rw [beq_eq_false_iff_ne.mpr this]
      exact mem_lookup nd.2 h
end Og

set_option Elab.async false
set_option linter.all false
set_option maxRecDepth 100000
set_option maxHeartbeats 4000000
/-! Comprehensions whose list is read as data. -/
namespace Og
open PySem PySem.Spec PyProof.Rows L2
section
variable {K : PySem.W.Frag} {D : Addr} {R : Nat → List PyData → Hp → Prop}
/-- i turns of the comprehension are done; its list stands at D -/
def LcN (K : PySem.W.Frag) (D : Addr) (R : Nat → List PyData → Hp → Prop) (i : Nat) (H : Hp) : Prop := ∃ ds, R i ds H ∧ LsAt K H D ds
theorem lc_start {H1 : Hp} (h : R 0 [] (upd H1 D (.lst []))) : LcN K D R 0 (upd H1 D (.lst [])) := ⟨[], h, [], upd_same, .nil⟩
theorem lc_put {H4 : Hp} {i : Nat} {ds : List PyData} {d : PyData} {y : V} (t : Tp K H4 y d) (l : LsAt K H4 D ds) (hst : ∀ H', Ext [D] H4 H' → NoTup H4 [D] → R i (ds ++ [d]) H') (len : ds.length < sizeLine) :
    ∃ acc, H4 D = some (.lst acc) ∧ acc.length < sizeLine ∧ LcN K D R i (upd H4 D (.lst (acc ++ [y]))) := by
  obtain ⟨acc, e1, t1⟩ := l
  have ext : Ext [D] H4 (upd H4 D (.lst (acc ++ [y]))) := Ext.upd (by simp)
  have nt : NoTup H4 [D] := .list e1 .nil
  exact ⟨acc, e1, by rw [t1.length]; exact len, ds ++ [d], hst _ ext nt, acc ++ [y], upd_same, (t1.append (.one t)).keep (.ext ext nt)⟩
/-- the turns of a filter that changes nothing -/
def Flt (H1 : Hp) (D : Addr) (n : Nat) (f : Nat → Option PyData) (i : Nat) (ds : List PyData) (H : Hp) : Prop := ds = (List.range i).filterMap f ∧ Ext [D] H1 H ∧ i ≤ n
theorem Flt.start {H1 : Hp} {n : Nat} {f : Nat → Option PyData} : LcN K D (Flt H1 D n f) 0 (upd H1 D (.lst [])) := lc_start ⟨rfl, Ext.upd (by simp), Nat.zero_le _⟩
theorem Flt.yes {H1 H H' : Hp} {n i : Nat} {f : Nat → Option PyData} {y : V} {d : PyData} (h : LcN K D (Flt H1 D n f) i H) (hi : i < n) (hn : n < sizeLine) (s : Same H H') (t : Tp K H' y d) (e : f i = some d) :
    ∃ acc, H' D = some (.lst acc) ∧ acc.length < sizeLine ∧ LcN K D (Flt H1 D n f) (i + 1) (upd H' D (.lst (acc ++ [y]))) := by
  obtain ⟨ds, ⟨rfl, x, _⟩, l⟩ := h
  refine lc_put t (l.same s) (fun H2 z _ => ⟨?_, (x.trans (.of s)).trans z, hi⟩) ?_
  · rw [List.range_succ, List.filterMap_append, List.filterMap_cons, e]
    rfl
  · have z : ((List.range i).filterMap f).length ≤ (List.range i).length := List.length_filterMap_le ..
    rw [List.length_range] at z
    omega
theorem Flt.no {H1 H H' : Hp} {n i : Nat} {f : Nat → Option PyData} (h : LcN K D (Flt H1 D n f) i H) (hi : i < n) (s : Same H H') (e : f i = none) : LcN K D (Flt H1 D n f) (i + 1) H' := by
  obtain ⟨ds, ⟨rfl, x, _⟩, l⟩ := h
  refine ⟨_, ⟨?_, x.trans (.of s), hi⟩, l.same s⟩
  rw [List.range_succ, List.filterMap_append, List.filterMap_cons, e]
  simp
theorem filter_range {α β : Type} (p : α → Option β) : ∀ (xs : List α), (List.range xs.length).filterMap (fun i => xs[i]?.bind p) = xs.filterMap p := by
  intro xs
  induction xs with
  | nil => rfl
  | cons x r ih =>
    rw [List.length_cons, List.range_succ_eq_map, List.filterMap_cons, List.filterMap_map, List.filterMap_cons]
    have e : ((fun i => (x :: r)[i]?.bind p) ∘ Nat.succ) = fun i => r[i]?.bind p := by
      funext i
      rfl
    rw [e, ih]
    rfl
end
theorem walk_range0 {n : Nat} : Walk (Itr 0 n) n (fun _ => True) (fun i H x H' => H' = H ∧ x = .int (i : Nat)) :=
  ⟨walk_range.goes, walk_range.stops, fun i H x H' hi g y => by
    obtain ⟨a, b⟩ := walk_range.yields i H x H' hi g y
    refine ⟨a, ?_⟩
    rw [b]
    show V.int (0 + (i : Nat)) = _
    rw [Int.zero_add]⟩
end Og

set_option Elab.async false
set_option linter.all false
set_option maxRecDepth 100000
set_option maxHeartbeats 4000000
/-! Data that may be compared: no dicts within, not deep. -/
namespace Og
open PySem PySem.Spec PyProof.Rows L2
def ShB (n : Nat) (d : PyData) : Prop := d.canLay0 = true ∧ d.depth ≤ n
theorem ShB.mono {n m : Nat} {d : PyData} (h : ShB n d) (k : n ≤ m) : ShB m d := ⟨h.1, Nat.le_trans h.2 k⟩
theorem ShB.str {n : Nat} {x : Str} (h : PyData.strOk x = true) : ShB n (.str x) := ⟨by simpa [PyData.canLay0] using h, Nat.zero_le _⟩
theorem shStrs {n : Nat} {xs : List Str} (h : ∀ x ∈ xs, PyData.strOk x = true) : ∀ d ∈ xs.map PyData.str, ShB n d := fun d hd => by
  obtain ⟨x, hx, rfl⟩ := mem_map_str hd
  exact .str (h x hx)
theorem ShB.int {n : Nat} {x : Int} : ShB n (.int x) := ⟨by simp [PyData.canLay0], Nat.zero_le _⟩
theorem ShB.non {n : Nat} : ShB n .none := ⟨by simp [PyData.canLay0], Nat.zero_le _⟩
theorem ShB.bl {n : Nat} {x : Bool} : ShB n (.bool x) := ⟨by simp [PyData.canLay0], Nat.zero_le _⟩
theorem shAll {n : Nat} : ∀ {ds : List PyData}, (∀ d ∈ ds, ShB n d) → PyData.canLayAll0 ds = true ∧ PyData.depthAll ds ≤ n
  | [], _ => ⟨by simp [PyData.canLayAll0], Nat.zero_le _⟩
  | d :: ds, h => by
    obtain ⟨a, b⟩ := shAll (ds := ds) fun e he => h e (List.mem_cons_of_mem _ he)
    obtain ⟨c, e⟩ := h d List.mem_cons_self
    refine ⟨by simp [PyData.canLayAll0, a, c], ?_⟩
    simp only [PyData.depthAll]
    omega
theorem ShB.tup {n : Nat} {ds : List PyData} (h : ∀ d ∈ ds, ShB n d) : ShB (n + 1) (.tuple ds) := by
  obtain ⟨a, b⟩ := shAll h
  exact ⟨by simp [PyData.canLay0, a], by simp only [PyData.depth]; omega⟩
theorem ShB.list {n : Nat} {ds : List PyData} (h : ∀ d ∈ ds, ShB n d) : ShB (n + 1) (.list ds) := by
  obtain ⟨a, b⟩ := shAll h
  exact ⟨by simp [PyData.canLay0, a], by simp only [PyData.depth]; omega⟩
theorem ShB.ok {n : Nat} {d : PyData} (h : ShB n d) (k : n ≤ 64) : SeqAt.shaped d = true := by
  unfold SeqAt.shaped
  rw [h.1, Bool.true_and]
  exact decide_eq_true (Nat.le_trans h.2 k)
section
variable {X : Cx}
/-- a list of ours != [] -/
theorem op_neL0 (hu : X.A.units + 64 < cLine) : OpR X (compareOp .NotEq) (fun x y H Q => ∃ l m n ds, x = .ref l ∧ y = .ref m ∧ LsAt X.K H l ds ∧ LsAt X.K H m [] ∧ (∀ d ∈ ds, ShB n d) ∧ n < 64 ∧ Q (.bl (decide (ds ≠ []))) H) := by
  intro pins s σ H x y v u Q I rx ry h
  obtain ⟨l, m, n, ds, rfl, rfl, ⟨xs, e1, t1⟩, ⟨ys, e2, t2⟩, sh, hn, q⟩ := h
  refine op_neD hu pins s σ H _ _ v u Q I rx ry ⟨.list ds, .list [], .lst (SqL.of e1) t1.dp, .lst (SqL.of e2) t2.dp, (ShB.list sh).ok (by omega), (ShB.list (n := 0) (ds := []) (by simp)).ok (by omega), ?_⟩
  have e : (!(PyData.list ds).eqv (PyData.list [])) = decide (ds ≠ []) := by
    cases ds <;> simp [PyData.eqv, PyData.eqvAll]
  rw [e]
  exact q
end
/-- slices of data -/
theorem cutD_to {ds : List PyData} {k : Nat} (h : k ≤ ds.length) : cutD ds none (some (k : Int)) = ds.take k := by
  unfold cutD
  rw [HT.sIx_none, HT.sIx_nat, Nat.sub_zero, List.drop_zero, Nat.min_eq_left h]
theorem cutD_from {ds : List PyData} {k : Nat} (h : k ≤ ds.length) : cutD ds (some (k : Int)) none = ds.drop k := by
  unfold cutD
  rw [HT.sIx_none, HT.sIx_nat, Nat.min_eq_left h]
  exact List.take_of_length_le (by rw [List.length_drop]; exact Nat.le_refl _)
theorem mem_rep {α : Type} {x d : α} {n : Nat} (h : d ∈ (List.replicate n [x]).flatten) : d = x := by
  obtain ⟨l, h1, h2⟩ := List.mem_flatten.mp h
  rw [(List.mem_replicate.mp h1).2] at h2
  exact List.mem_singleton.mp h2
end Og

set_option Elab.async false
set_option linter.all false
set_option maxRecDepth 100000
set_option maxHeartbeats 4000000
/-! Displays of tuples, texts, ints, known names: read in one step as data. -/
namespace Og
open PySem PySem.Spec PyProof.Rows L2
/-- what the names hold, as data, as far as told -/
inductive EnvD (K : PySem.W.Frag) (H : Hp) : List (Option PyData) → L2.St → Prop
  | nil {σ : L2.St} : EnvD K H [] σ
  | cons {v : V} {d : PyData} {Γ : List (Option PyData)} {σ : L2.St} : Tp K H v d → EnvD K H Γ σ → EnvD K H (some d :: Γ) (some v :: σ)
  | skip {x : Option V} {Γ : List (Option PyData)} {σ : L2.St} : EnvD K H Γ σ → EnvD K H (none :: Γ) (x :: σ)
abbrev DE := List (Option PyData) → Option PyData
theorem EnvD.get {K : PySem.W.Frag} {H : Hp} : ∀ {Γ : List (Option PyData)} {σ : L2.St} {i : Nat} {d : PyData}, EnvD K H Γ σ → Γ[i]? = some (some d) → ∃ v, σ[i]? = some (some v) ∧ Tp K H v d
  | _, _, _, _, .nil, e => by simp at e
  | _, _, 0, _, .cons t _, e => by
    simp at e
    subst e
    exact ⟨_, rfl, t⟩
  | _, _, i + 1, _, .cons _ r, e => by
    obtain ⟨v, e1, t⟩ := EnvD.get (i := i) r (by simpa using e)
    exact ⟨v, by simpa using e1, t⟩
  | _, _, 0, _, .skip _, e => by simp at e
  | _, _, i + 1, _, .skip r, e => by
    obtain ⟨v, e1, t⟩ := EnvD.get (i := i) r (by simpa using e)
    exact ⟨v, by simpa using e1, t⟩
theorem EnvD.same {K : PySem.W.Frag} {H H' : Hp} (s : Same H H') {Γ : List (Option PyData)} {σ : L2.St} (h : EnvD K H Γ σ) : EnvD K H' Γ σ := by
  induction h with
  | nil => exact .nil
  | cons t _ ih => exact .cons (t.same s) ih
  | skip _ ih => exact .skip ih
def tD (K : PySem.W.Frag) (f : DE) : TE := fun σ H Q => ∃ Γ d, EnvD K H Γ σ ∧ f Γ = some d ∧ ∀ z H', Same H H' → Tp K H' z d → Q z H'
def allD : List DE → List (Option PyData) → Option (List PyData)
  | [], _ => some []
  | f :: fs, Γ => match f Γ, allD fs Γ with
    | some d, some ds => some (d :: ds)
    | _, _ => none
def tDs (K : PySem.W.Frag) (fs : List DE) : TA := fun σ H Q => ∃ Γ ds, EnvD K H Γ σ ∧ allD fs Γ = some ds ∧ ∀ zs H', Same H H' → TpAll K H' zs ds → Q zs H'
def dV (i : Nat) : DE := fun Γ => match Γ[i]? with
  | some (some d) => some d
  | _ => none
def dC (d : PyData) : DE := fun _ => some d
def dT (fs : List DE) : DE := fun Γ => match allD fs Γ with
  | some ds => some (.tuple ds)
  | none => none
def dCat (f g : DE) : DE := fun Γ => match f Γ, g Γ with
  | some (.tuple ds), some (.tuple es) => some (.tuple (ds ++ es))
  | _, _ => none
theorem pe_imp {X : Cx} {e : Expr} {t t' : TE} (h : PE X e t) (k : ∀ σ H Q, t' σ H Q → t σ H Q) : PE X e t' := ⟨fun pins s σ H Q I q => h.run pins s σ H Q I (k _ _ _ q)⟩
theorem pa_imp {X : Cx} {e : List Expr} {t t' : TA} (h : PA X e t) (k : ∀ σ H Q, t' σ H Q → t σ H Q) : PA X e t' := ⟨fun pos pins s σ H Q I q => h.run pos pins s σ H Q I (k _ _ _ q)⟩
section
variable {X : Cx} {e : Expr} {es : List Expr} {pos : Pos}
theorem pd_var {i : Nat} (h : PE X e (tVar i)) : PE X e (tD X.K (dV i)) := pe_imp h fun σ H Q ⟨Γ, d, env, hf, q⟩ => by
  unfold dV at hf
  split at hf
  · rename_i d' e'
    cases hf
    obtain ⟨v, e1, t⟩ := env.get e'
    exact ⟨v, e1, q v H (Same.refl H) t⟩
  · cases hf
theorem pd_str {x : Str} (h : PE X e (tC (.str x))) : PE X e (tD X.K (dC (.str x))) := pe_imp h fun σ H Q ⟨Γ, d, env, hf, q⟩ => by
  cases hf
  exact q _ H (Same.refl H) (.str x)
theorem pd_int {x : Int} (h : PE X e (tC (.int x))) : PE X e (tD X.K (dC (.int x))) := pe_imp h fun σ H Q ⟨Γ, d, env, hf, q⟩ => by
  cases hf
  exact q _ H (Same.refl H) (.int x)
theorem pds_nil : PA X [] (tDs X.K []) := pa_imp pa_nil fun σ H Q ⟨Γ, ds, env, hf, q⟩ => by
  cases hf
  exact q [] H (Same.refl H) .nil
theorem pds_cons {f : DE} {fs : List DE} (h : PE X e (tD X.K f)) (r : PA X es (tDs X.K fs)) (hs : starEach (e :: es) X.env = (false, eval e X.env) :: starEach es X.env := by rfl) : PA X (e :: es) (tDs X.K (f :: fs)) := pa_imp (pa_cons h r hs) fun σ H Q ⟨Γ, ds, env, hf, q⟩ => by
  unfold allD at hf
  split at hf
  · rename_i d ds' e1 e2
    cases hf
    refine ⟨Γ, d, env, e1, fun z H1 s1 t1 => ⟨Γ, ds', env.same s1, e2, fun zs H2 s2 t2 => q _ H2 (s1.trans s2) (.cons (t1.same s2) t2)⟩⟩
  · cases hf
theorem pd_tup {fs : List DE} {x1} (h : PA X es (tDs X.K fs)) (hl : fs.length ≤ 1000 := by decide) : PE X (.Tuple es x1 pos) (tD X.K (dT fs)) := pe_imp (pe_tup h) fun σ H Q ⟨Γ, d, env, hf, q⟩ => by
  unfold dT at hf
  split at hf
  · rename_i ds e1
    cases hf
    refine ⟨Γ, ds, env, e1, fun zs H1 s1 t1 => ⟨?_, fun p hp => q _ _ (s1.trans (Same.new hp)) (tp_new hp t1)⟩⟩
    have l : ∀ {fs : List DE} {ds : List PyData}, allD fs Γ = some ds → ds.length = fs.length := by
      intro fs
      induction fs with
      | nil =>
        intro ds e
        cases e
        rfl
      | cons f fs ih =>
        intro ds e
        unfold allD at e
        split at e
        · rename_i d' ds' _ e2
          cases e
          rw [List.length_cons, List.length_cons, ih e2]
        · cases e
    have z := l e1
    have : (1000 : Nat) ≤ sizeLine := by decide
    rw [t1.length]
    omega
  · cases hf
theorem pd_cat {a b : Expr} {f g : DE} {x1} (ha : PE X a (tD X.K f)) (hb : PE X b (tD X.K g)) : PE X (.BinOp a .Add b x1) (fun σ H Q => ∃ Γ d e, EnvD X.K H Γ σ ∧ f Γ = some (.tuple d) ∧ g Γ = some (.tuple e) ∧ d.length + e.length ≤ sizeLine ∧ ∀ z H', Same H H' → Tp X.K H' z (.tuple (d ++ e)) → Q z H') :=
  pe_imp (pe_op op_catS ha hb) fun σ H Q ⟨Γ, d, e, env, e1, e2, hl, q⟩ => ⟨Γ, _, env, e1, fun z H1 s1 t1 => ⟨Γ, _, env.same s1, e2, fun y H2 s2 t2 => ⟨d, e, t1.same s2, t2, hl, fun w H3 s3 t3 => q w H3 (s1.trans (s2.trans s3)) t3⟩⟩⟩
/-- t + u within a display -/
def small (f : DE) : Prop := ∀ Γ d, f Γ = some (.tuple d) → d.length ≤ 100
theorem pd_cat2 {a b : Expr} {fs : List DE} {g : DE} {x1} (ha : PE X a (tD X.K (dT fs))) (hb : PE X b (tD X.K g)) (hl : fs.length ≤ 100 := by decide) :
    PE X (.BinOp a .Add b x1) (tD X.K fun Γ => match dT fs Γ, g Γ with
      | some (.tuple d), some (.tuple e) => if e.length ≤ 100 ∧ d.length ≤ 100 then some (.tuple (d ++ e)) else none
      | _, _ => none) := pe_imp (pd_cat ha hb) fun σ H Q ⟨Γ, d, env, hf, q⟩ => by
  simp only at hf
  split at hf
  · rename_i d1 e1 h1 h2
    split at hf
    · rename_i hlen
      cases hf
      have : (200 : Nat) ≤ sizeLine := by decide
      exact ⟨Γ, d1, e1, env, h1, h2, by omega, q⟩
    · cases hf
  · cases hf
/-- a list's display of such -/
theorem pd_lst {fs : List DE} {x1} (h : PA X es (tDs X.K fs)) : PE X (.List es x1) (fun σ H Q => ∃ Γ ds, EnvD X.K H Γ σ ∧ allD fs Γ = some ds ∧ ds.length ≤ sizeLine ∧ ∀ l H', H l = none → Same H H' → LsAt X.K H' l ds → Q (.ref l) H') := pe_imp (pe_lst h) fun σ H Q ⟨Γ, ds, env, hf, hl, q⟩ =>
  ⟨Γ, ds, env, hf, fun zs H1 s1 t1 => ⟨by rw [t1.length]; exact hl, fun p hp => q p _ (s1.free hp) (s1.trans (Same.new hp)) (ls_new hp t1)⟩⟩
/-- a tuple == () -/
def rEqT0 (K : PySem.W.Frag) : R2 := fun x y H Q => ∃ ds n, Tp K H x (.tuple ds) ∧ Tp K H y (.tuple []) ∧ (∀ d ∈ ds, ShB n d) ∧ n < 64 ∧ Q (.bl (decide (ds = []))) H
def rNeT0 (K : PySem.W.Frag) : R2 := fun x y H Q => ∃ ds n, Tp K H x (.tuple ds) ∧ Tp K H y (.tuple []) ∧ (∀ d ∈ ds, ShB n d) ∧ n < 64 ∧ Q (.bl (decide (ds ≠ []))) H
theorem op_eqT0 (hu : X.A.units + 64 < cLine) : OpR X (compareOp .Eq) (rEqT0 X.K) := by
  intro pins s σ H x y v u Q I rx ry h
  obtain ⟨ds, n, t1, t2, sh, hn, q⟩ := h
  refine op_eqT hu pins s σ H _ _ v u Q I rx ry ⟨_, _, t1, t2, (ShB.tup sh).ok (by omega), (ShB.tup (n := 0) (ds := []) (by simp)).ok (by omega), ?_⟩
  have e : ((PyData.tuple ds).eqv (PyData.tuple [])) = decide (ds = []) := by
    cases ds <;> simp [PyData.eqv, PyData.eqvAll]
  rw [e]
  exact q
theorem op_neT0 (hu : X.A.units + 64 < cLine) : OpR X (compareOp .NotEq) (rNeT0 X.K) := by
  intro pins s σ H x y v u Q I rx ry h
  obtain ⟨ds, n, t1, t2, sh, hn, q⟩ := h
  refine op_neT hu pins s σ H _ _ v u Q I rx ry ⟨_, _, t1, t2, (ShB.tup sh).ok (by omega), (ShB.tup (n := 0) (ds := []) (by simp)).ok (by omega), ?_⟩
  have e : (!(PyData.tuple ds).eqv (PyData.tuple [])) = decide (ds ≠ []) := by
    cases ds <;> simp [PyData.eqv, PyData.eqvAll]
  rw [e]
  exact q
end
end Og

set_option Elab.async false
set_option linter.all false
set_option maxRecDepth 100000
set_option maxHeartbeats 4000000
/-! Words of a text, in plain Lean. -/
namespace Og
open PySem PySem.Spec PyProof.Rows L2 TL
abbrev Cs := List Nat
def mkS (cs : Cs) : Str := ⟨cs.toArray⟩
theorem tl_mkS (cs : Cs) : tl (mkS cs) = cs := rfl
theorem mkS_tl (x : Str) : mkS (tl x) = x := mk_tl x
theorem mkS_len (cs : Cs) : (mkS cs).length = cs.length := by rw [len_tl, tl_mkS]
def DIGs : Str := "0123456789"
def LETs : Str := "abcdefghijklmnopqrstuvwxyzABCDEFGHIJKLMNOPQRSTUVWXYZ"
def TAILs : Str := "0123456789_"
def SIGs : Str := LETs ++ TAILs
def ONEs : Str := "(),;:=/"
def OWNs : List Str := ["and", "cost", "if", "kind", "may", "never", "not", "say", "tell"]
/-- how many signs of S stand ahead -/
def row (S : Str) (cs : Cs) : Nat := (cs.takeWhile fun c => decide (c ∈ tl S)).length
theorem row_le (S : Str) (cs : Cs) : row S cs ≤ cs.length := (List.takeWhile_sublist _).length_le
theorem row_step {S : Str} {c : Nat} {r : Cs} : row S (c :: r) = if c ∈ tl S then row S r + 1 else 0 := by
  unfold row
  rw [List.takeWhile_cons]
  by_cases h : c ∈ tl S
  · simp [h]
  · simp [h]
theorem row_nil {S : Str} : row S [] = 0 := rfl
def letW (cs : Cs) : Str × Str := if (cs.take (row SIGs cs)).length > 12 then ("bad", "word") else (if mkS (cs.take (row SIGs cs)) ∈ OWNs then "own" else "name", mkS (cs.take (row SIGs cs)))
def figW (cs : Cs) : Str × Str := if (cs.take (row DIGs cs)).length > 12 ∨ ((cs.take (row DIGs cs)).length > 1 ∧ cs.head? = some 48) then ("bad", "number") else ("number", mkS (cs.take (row DIGs cs)))
def wordW (cs : Cs) : Str × Str := match cs with
  | [] => ("bad", "sign")
  | c :: r => if c ∈ tl LETs then letW (c :: r) else if c ∈ tl DIGs then figW (c :: r) else if (c :: r).take 2 = [33, 61] then ("sign", "!=") else if c ∈ tl ONEs then ("sign", mkS [c]) else ("bad", "sign")
abbrev Tk1 := Str × Str × Nat
def lineF : Nat → Nat → Cs → List Tk1 × Bool
  | 0, _, _ => ([], false)
  | f + 1, n, cs => match cs with
    | [] => ([], false)
    | c :: r => if c = 35 then ([], false) else if c = 32 then lineF f (n + 1) r else
      if (wordW (c :: r)).1 = "bad" then ([((wordW (c :: r)).1, (wordW (c :: r)).2, n)], true) else
        (((wordW (c :: r)).1, (wordW (c :: r)).2, n) :: (lineF f (n + (wordW (c :: r)).2.length) ((c :: r).drop (wordW (c :: r)).2.length)).1, (lineF f (n + (wordW (c :: r)).2.length) ((c :: r).drop (wordW (c :: r)).2.length)).2)
theorem row_pos {S : Str} {c : Nat} {r : Cs} (h : c ∈ tl S) : 1 ≤ row S (c :: r) := by
  rw [row_step, if_pos h]
  omega
theorem lets_sigs {c : Nat} (h : c ∈ tl LETs) : c ∈ tl SIGs := by
  unfold SIGs
  rw [tl_append]
  exact List.mem_append_left _ h
/-- a word that is not bad holds at least one sign, and stands ahead -/
theorem wordW_pos {c : Nat} {r : Cs} (h : (wordW (c :: r)).1 ≠ "bad") : 1 ≤ (wordW (c :: r)).2.length ∧ tl (wordW (c :: r)).2 = (c :: r).take (wordW (c :: r)).2.length := by
  have key : ∀ n, n ≤ (c :: r).length → (mkS ((c :: r).take n)).length = n := fun n hn => by rw [mkS_len, List.length_take]; omega
  unfold wordW at h ⊢
  simp only at h ⊢
  split at h
  · rename_i hc
    rw [if_pos hc]
    unfold letW at h ⊢
    split at h
    · exact absurd rfl h
    · rename_i h2
      rw [if_neg h2]
      have z := key _ (row_le SIGs (c :: r))
      show 1 ≤ (mkS _).length ∧ tl (mkS _) = (c :: r).take (mkS _).length
      rw [z]
      exact ⟨row_pos (lets_sigs hc), rfl⟩
  · rename_i hc
    rw [if_neg hc]
    split at h
    · rename_i hd
      rw [if_pos hd]
      unfold figW at h ⊢
      split at h
      · exact absurd rfl h
      · rename_i h2
        rw [if_neg h2]
        have z := key _ (row_le DIGs (c :: r))
        show 1 ≤ (mkS _).length ∧ tl (mkS _) = (c :: r).take (mkS _).length
        rw [z]
        exact ⟨row_pos hd, rfl⟩
    · rename_i hd
      rw [if_neg hd]
      split at h
      · rename_i he
        rw [if_pos he]
        have z : tl ("!=" : Str) = [33, 61] := by decide +kernel
        have z2 : ("!=" : Str).length = 2 := by rw [len_tl, z]; rfl
        show 1 ≤ ("!=" : Str).length ∧ tl ("!=" : Str) = (c :: r).take ("!=" : Str).length
        rw [z2, z, he]
        exact ⟨by decide, rfl⟩
      · rename_i he
        rw [if_neg he]
        split at h
        · rename_i ho
          rw [if_pos ho]
          exact ⟨Nat.le_refl 1, rfl⟩
        · exact absurd rfl h
theorem lineF_fuel : ∀ (f : Nat) (n : Nat) (cs : Cs), cs.length ≤ f → lineF f n cs = lineF cs.length n cs := by
  have key : ∀ (m f g n : Nat) (cs : Cs), cs.length ≤ m → cs.length ≤ f → cs.length ≤ g → lineF f n cs = lineF g n cs := by
    intro m
    induction m with
    | zero =>
      intro f g n cs h0 _ _
      have e : cs = [] := List.eq_nil_of_length_eq_zero (by omega)
      subst e
      cases f <;> cases g <;> rfl
    | succ m ih =>
      intro f g n cs h0 h1 h2
      cases cs with
      | nil => cases f <;> cases g <;> rfl
      | cons c r =>
        obtain ⟨f, rfl⟩ : ∃ k, f = k + 1 := ⟨f - 1, by simp at h1; omega⟩
        obtain ⟨g, rfl⟩ : ∃ k, g = k + 1 := ⟨g - 1, by simp at h2; omega⟩
        simp only [List.length_cons] at h0 h1 h2
        unfold lineF
        simp only
        by_cases e1 : c = 35
        · rw [if_pos e1, if_pos e1]
        rw [if_neg e1, if_neg e1]
        by_cases e2 : c = 32
        · rw [if_pos e2, if_pos e2]
          exact ih f g (n + 1) r (by omega) (by omega) (by omega)
        rw [if_neg e2, if_neg e2]
        by_cases e3 : (wordW (c :: r)).1 = "bad"
        · rw [if_pos e3, if_pos e3]
        rw [if_neg e3, if_neg e3]
        have p := (wordW_pos e3).1
        have l : ((c :: r).drop (wordW (c :: r)).2.length).length ≤ r.length := by rw [List.length_drop, List.length_cons]; omega
        rw [ih f g (n + (wordW (c :: r)).2.length) _ (by omega) (by omega) (by omega)]
  intro f n cs h
  exact key cs.length f cs.length n cs (Nat.le_refl _) h (Nat.le_refl _)
/-- the words of a line from place n on; whether the last is bad -/
def lineW (n : Nat) (cs : Cs) : List Tk1 × Bool := lineF cs.length n cs
theorem lineW_nil {n : Nat} : lineW n [] = ([], false) := rfl
theorem lineW_hash {n : Nat} {r : Cs} : lineW n (35 :: r) = ([], false) := rfl
theorem lineW_blank {n : Nat} {r : Cs} : lineW n (32 :: r) = lineW (n + 1) r := rfl
theorem lineW_bad {n c : Nat} {r : Cs} (h1 : c ≠ 35) (h2 : c ≠ 32) (h3 : (wordW (c :: r)).1 = "bad") : lineW n (c :: r) = ([((wordW (c :: r)).1, (wordW (c :: r)).2, n)], true) := by
  unfold lineW
  rw [List.length_cons]
  unfold lineF
  simp only
  rw [if_neg h1, if_neg h2, if_pos h3]
theorem lineW_word {n c : Nat} {r : Cs} (h1 : c ≠ 35) (h2 : c ≠ 32) (h3 : (wordW (c :: r)).1 ≠ "bad") : lineW n (c :: r) =
    (((wordW (c :: r)).1, (wordW (c :: r)).2, n) :: (lineW (n + (wordW (c :: r)).2.length) ((c :: r).drop (wordW (c :: r)).2.length)).1, (lineW (n + (wordW (c :: r)).2.length) ((c :: r).drop (wordW (c :: r)).2.length)).2) := by
  unfold lineW
  rw [List.length_cons]
  conv => lhs; unfold lineF
  simp only
  rw [if_neg h1, if_neg h2, if_neg h3]
  have p := (wordW_pos h3).1
  have l : ((c :: r).drop (wordW (c :: r)).2.length).length ≤ r.length := by rw [List.length_drop, List.length_cons]; omega
  rw [lineF_fuel r.length _ _ l]
/-- a word as told: sort, letters, line, place -/
abbrev Tok := Str × Str × Nat × Nat
def tokD (t : Tok) : PyData := .tuple [.str t.1, .str t.2.1, .int (t.2.2.1 : Nat), .int (t.2.2.2 : Nat)]
def atLine (k : Nat) (t : Tk1) : Tok := (t.1, t.2.1, k, t.2.2)
def linesW : Nat → List Cs → List Tok × Bool
  | _, [] => ([], false)
  | k, l :: ls => if (lineW 0 l).2 = true then ((lineW 0 l).1.map (atLine k), true) else ((lineW 0 l).1.map (atLine k) ++ (linesW (k + 1) ls).1, (linesW (k + 1) ls).2)
theorem linesW_cons {k : Nat} {l : Cs} {ls : List Cs} : linesW k (l :: ls) = if (lineW 0 l).2 = true then ((lineW 0 l).1.map (atLine k), true) else ((lineW 0 l).1.map (atLine k) ++ (linesW (k + 1) ls).1, (linesW (k + 1) ls).2) := rfl
def linesOf (cs : Cs) : List Cs := spl [10] 0 [] cs
def endTok (ls : List Cs) : Tok := ("end", "", ls.length - 1, (ls.getLast?.getD []).length)
def wordsW (cs : Cs) : List Tok := if (linesW 0 (linesOf cs)).2 = true then (linesW 0 (linesOf cs)).1 else (linesW 0 (linesOf cs)).1 ++ [endTok (linesOf cs)]
theorem lineF_len : ∀ (f n : Nat) (cs : Cs), (lineF f n cs).1.length ≤ cs.length := by
  intro f
  induction f with
  | zero =>
    intro n cs
    exact Nat.zero_le _
  | succ f ih =>
    intro n cs
    cases cs with
    | nil => exact Nat.zero_le _
    | cons c r =>
      unfold lineF
      simp only
      by_cases e1 : c = 35
      · rw [if_pos e1]
        exact Nat.zero_le _
      rw [if_neg e1]
      by_cases e2 : c = 32
      · rw [if_pos e2]
        exact Nat.le_trans (ih _ r) (by simp)
      rw [if_neg e2]
      by_cases e3 : (wordW (c :: r)).1 = "bad"
      · rw [if_pos e3]
        simp
      rw [if_neg e3]
      have p := (wordW_pos e3).1
      have z := ih (n + (wordW (c :: r)).2.length) ((c :: r).drop (wordW (c :: r)).2.length)
      have l : ((c :: r).drop (wordW (c :: r)).2.length).length ≤ r.length := by rw [List.length_drop, List.length_cons]; omega
      simp only [List.length_cons]
      omega
theorem lineW_len (n : Nat) (cs : Cs) : (lineW n cs).1.length ≤ cs.length := lineF_len _ _ _
theorem linesW_len : ∀ (ls : List Cs) (k : Nat), (linesW k ls).1.length ≤ (ls.map List.length).sum := by
  intro ls
  induction ls with
  | nil =>
    intro k
    exact Nat.zero_le _
  | cons l ls ih =>
    intro k
    have z := lineW_len 0 l
    have y := ih (k + 1)
    unfold linesW
    split
    · simp only [List.length_map, List.map_cons, List.sum_cons]
      omega
    · simp only [List.length_append, List.length_map, List.map_cons, List.sum_cons]
      omega
theorem pre_one {s c : Nat} {r : Cs} : pre [s] (c :: r) = decide (c = s) := by
  unfold pre
  show ([c] == [s]) = _
  by_cases h : c = s
  · subst h
    simp
  · rw [decide_eq_false h, beq_eq_false_iff_ne]
    intro z
    exact h (List.head_eq_of_cons_eq z)
/-- the parts of a text: how long -/
theorem spl_sum {s : Nat} : ∀ (cs acc : Cs), ((spl [s] 0 acc cs).map List.length).sum + (spl [s] 0 acc cs).length = acc.length + cs.length + 1 := by
  intro cs
  induction cs with
  | nil =>
    intro acc
    rw [spl_nil]
    simp
  | cons c r ih =>
    intro acc
    by_cases h : c = s
    · rw [spl_hit (by rw [pre_one]; exact decide_eq_true h)]
      have z := ih []
      simp only [List.map_cons, List.sum_cons, List.length_cons, List.length_nil] at z ⊢
      show acc.length + ((spl [s] (1 - 1) [] r).map List.length).sum + ((spl [s] (1 - 1) [] r).length + 1) = _
      rw [Nat.sub_self]
      omega
    · rw [spl_miss (by rw [pre_one]; exact decide_eq_false h)]
      have z := ih (acc ++ [c])
      rw [List.length_append] at z
      simp only [List.length_cons, List.length_nil] at z ⊢
      omega
theorem spl_ne {s : Nat} : ∀ (cs acc : Cs), spl [s] 0 acc cs ≠ [] := by
  intro cs
  induction cs with
  | nil =>
    intro acc
    rw [spl_nil]
    simp
  | cons c r ih =>
    intro acc
    by_cases h : c = s
    · rw [spl_hit (by rw [pre_one]; exact decide_eq_true h)]
      simp
    · rw [spl_miss (by rw [pre_one]; exact decide_eq_false h)]
      exact ih _
theorem mem_sum : ∀ {xs : List Nat} {x : Nat}, x ∈ xs → x ≤ xs.sum
  | [], _, h => nomatch h
  | y :: r, x, h => by
    rw [List.sum_cons]
    rcases List.mem_cons.mp h with rfl | h
    · omega
    · have := mem_sum h
      omega
end Og

set_option Elab.async false
set_option linter.all false
set_option maxRecDepth 100000
set_option maxHeartbeats 4000000
/-! Facts of the written part, as truths that one reckoning shows: what a module's name holds. -/
namespace Og
open PySem PySem.Spec PyProof.Rows L2
/-- names that the module does not hold -/
def freeB (K : PySem.W.Frag) (xs : List Str) : Bool := xs.all fun x => decide (PySem.W.nsIn K mainGlobals x = some none)
theorem freeB_ok {K : PySem.W.Frag} {h : Heap} {mg : Str → Option Value} {xs : List Str} (X : K.In h) (G : h.Ns mainGlobals mg) (b : freeB K xs = true) : ∀ x ∈ xs, mg x = none := fun x hx => PySem.W.mg_none_of X G (of_decide_eq_true (List.all_eq_true.mp b x hx))
def bltNames : List Str := ["int", "list", "len", "str", "isinstance", "enumerate", "range", "all", "any", "dict", "tuple", "sorted", "zip", "repr", "set", "bool", "sum", "max", "min", "abs", "ValueError", "KeyError"]
theorem blt_of {K : PySem.W.Frag} {h : Heap} {mg : Str → Option Value} (X : K.In h) (G : h.Ns mainGlobals mg) (b : freeB K bltNames = true) : Blt mg := ⟨freeB_ok X G b⟩
/-- the name holds that text -/
def strAtB (K : PySem.W.Frag) (x s : Str) : Bool := match PySem.W.nsIn K mainGlobals x with
  | some (some (.str y _)) => decide (y = s)
  | _ => false
theorem strAtB_ok {K : PySem.W.Frag} {h : Heap} {mg : Str → Option Value} {x s : Str} (X : K.In h) (G : h.Ns mainGlobals mg) (b : strAtB K x s = true) : ∃ t, mg x = some (.str s t) := by
  unfold strAtB at b
  split at b
  · rename_i y t e
    have z := of_decide_eq_true b
    subst z
    exact ⟨t, PySem.W.mg_of X G e⟩
  · cases b
/-- the name holds that int -/
def intAtB (K : PySem.W.Frag) (x : Str) (i : Int) : Bool := match PySem.W.nsIn K mainGlobals x with
  | some (some (.int y _)) => decide (y = i)
  | _ => false
theorem intAtB_ok {K : PySem.W.Frag} {h : Heap} {mg : Str → Option Value} {x : Str} {i : Int} (X : K.In h) (G : h.Ns mainGlobals mg) (b : intAtB K x i = true) : ∃ t, mg x = some (.int i t) := by
  unfold intAtB at b
  split at b
  · rename_i y t e
    have z := of_decide_eq_true b
    subst z
    exact ⟨t, PySem.W.mg_of X G e⟩
  · cases b
def strsB : List Str → List Value → Bool
  | [], [] => true
  | x :: xs, .str y _ :: us => decide (x = y) && strsB xs us
  | _, _ => false
theorem strsB_ok : ∀ {xs : List Str} {us : List Value}, strsB xs us = true → Vals (xs.map V.str) us
  | [], [], _ => .nil
  | x :: xs, .str y t :: us, h => by
    unfold strsB at h
    obtain ⟨h1, h2⟩ := (Bool.and_eq_true _ _ ▸ h : _ ∧ _)
    have z := of_decide_eq_true h1
    subst z
    exact .cons ⟨t, rfl⟩ (strsB_ok h2)
def isTup : Value → Bool
  | .type s => s == "tuple"
  | _ => false
theorem isTup_ok {v : Value} (h : isTup v = true) : v = .type "tuple" := by
  cases v <;> first | (simp only [isTup, beq_iff_eq] at h; rw [h]) | (simp [isTup] at h)
/-- the name holds a tuple of those texts -/
def strsAtB (K : PySem.W.Frag) (x : Str) (xs : List Str) : Bool := match PySem.W.nsIn K mainGlobals x with
  | some (some (.ref a)) => match K.lookup a with
    | some o => isTup o.cls && match o.data with
      | .seq its _ => strsB xs its.toList && decide (its.size ≤ 1000)
      | _ => false
    | none => false
  | _ => false
theorem strsAtB_ok {K : PySem.W.Frag} {h : Heap} {mg : Str → Option Value} {x : Str} {xs : List Str} (X : K.In h) (G : h.Ns mainGlobals mg) (b : strsAtB K x xs = true) : ∃ a, mg x = some (.ref a) ∧ ∀ H, SqT K H a (xs.map V.str) := by
  unfold strsAtB at b
  split at b
  · rename_i a e
    split at b
    · rename_i o eo
      obtain ⟨h1, h2⟩ := (Bool.and_eq_true _ _ ▸ b : _ ∧ _)
      split at h2
      · rename_i its n ed
        obtain ⟨h3, h4⟩ := (Bool.and_eq_true _ _ ▸ h2 : _ ∧ _)
        have z := of_decide_eq_true h4
        have big : 1000 ≤ sizeLine := by decide
        exact ⟨a, PySem.W.mg_of X G e, fun H => .inr ⟨o, its, n, eo, isTup_ok h1, ed, by omega, strsB_ok h3⟩⟩
      · cases h2
    · cases b
  · cases b
end Og

set_option Elab.async false
set_option linter.all false
set_option maxRecDepth 100000
set_option maxHeartbeats 8000000
namespace Og
open PySem L2
def top (i : Nat) : Stmt := PySem.Challenge.pw_owngrounds_k44_words_of_texts.main.body.getD i (.Pass ⟨0, 0, 0, 0⟩)
abbrev sPRowEnd : Stmt := top 7
abbrev sPLetterWord : Stmt := top 8
abbrev sPFigureWord : Stmt := top 9
abbrev sPWordFrom : Stmt := top 10
abbrev sPWordsIn : Stmt := top 11
abbrev sPWordsOf : Stmt := top 12
abbrev sPen : Stmt := top 14
abbrev sDraw : Stmt := top 15
abbrev sPick : Stmt := top 16
abbrev sShuffled : Stmt := top 17
abbrev sIsInt : Stmt := top 18
abbrev sBookHead : Stmt := top 19
abbrev sBookTerm : Stmt := top 20
abbrev sBookAtom : Stmt := top 21
abbrev sBookSides : Stmt := top 22
abbrev sBookForm : Stmt := top 23
abbrev sBookPlanted : Stmt := top 24
abbrev sBookSays : Stmt := top 25
abbrev sBookWide : Stmt := top 26
abbrev sBook : Stmt := top 27
abbrev sPartWords : Stmt := top 28
abbrev sAtomWords : Stmt := top 29
abbrev sFormWords : Stmt := top 30
abbrev sRowWords : Stmt := top 31
abbrev sTreeWords : Stmt := top 32
abbrev sTextOf : Stmt := top 33
abbrev sGap : Stmt := top 34
abbrev sLooseText : Stmt := top 35
abbrev sRowOf : Stmt := top 36
abbrev sWords : Stmt := top 37
abbrev sSpoilt : Stmt := top 38
abbrev sToldOk : Stmt := top 39
abbrev sPLaw : Stmt := top 40
end Og

set_option Elab.async false
set_option linter.all false
set_option maxRecDepth 100000
set_option maxHeartbeats 8000000
namespace Og
open PySem L2
theorem seq_ix {n j : Nat} (h : j < n) : seqIndex? (j : Int) n = some j := by
  refine (ixN_seq (n := n) (i := (j : Int)) (j := j) ?_).1
  unfold ixN
  rw [if_pos (by omega), if_pos (by omega), Int.toNat_natCast]
theorem atI_of {α : Type} {xs : List α} {j : Nat} (h : j < xs.length) : atI xs (j : Int) = some xs[j] := atI_nat (List.getElem?_eq_getElem h)
theorem LsAt.ty {K : PySem.W.Frag} {H : Hp} {l : Addr} {ds : List PyData} (h : LsAt K H l ds) : tyV K "list" (.ref l) H := let ⟨_, e, _⟩ := h; .inl ⟨rfl, _, SqL.of e⟩
theorem LsAt.sq {K : PySem.W.Frag} {H : Hp} {l : Addr} {ds : List PyData} (h : LsAt K H l ds) : Sq K H (.ref l) ds := .inl ⟨l, rfl, h⟩
theorem Tp.sq {K : PySem.W.Frag} {H : Hp} {v : V} {ds : List PyData} (h : Tp K H v (.tuple ds)) : Sq K H v ds := .inr h
/-- a list of ours is written -/
theorem ls_put {K : PySem.W.Frag} {H : Hp} {l : Addr} {xs ys : List V} {es : List PyData} (h : H l = some (.lst xs)) (r : TpAll K H ys es) : LsAt K (upd H l (.lst ys)) l es :=
  ⟨ys, upd_same, r.keep (.ext (Ext.upd (S := [l]) (by simp)) (.list h .nil))⟩
def spPen (K : PySem.W.Frag) : Sp := fun vs H Q _ => ∃ (a : Addr) (ns : List Int), vs = [.ref a] ∧ SqL K H a (ns.map V.int) ∧ ns.length ≤ 63 ∧
  ∀ p l H', H p = none → H l = none → Same H H' → PenAt H' p l (2 ^ 39) → Q (.ref p) H'
def spDraw : Sp := fun vs H Q _ => ∃ (p l : Addr) (m : Int) (n : Nat), vs = [.ref p, .int m] ∧ PenAt H p l (n + 1) ∧ 0 < m ∧ m < 2 ^ 62 ∧
  ∀ (r : Int) H', 0 ≤ r → r < m → PenAt H' p l n → But p H H' → Q (.int r) H'
def spPick (K : PySem.W.Frag) : Sp := fun vs H Q _ => ∃ (p l : Addr) (v : V) (ds : List PyData) (n : Nat), vs = [.ref p, v] ∧ PenAt H p l (n + 1) ∧ Sq K H v ds ∧ ds ≠ [] ∧ ds.length ≤ 1000 ∧
  ∀ x d H', d ∈ ds → Tp K H' x d → PenAt H' p l n → But p H H' → Q x H'
def spShuf (K : PySem.W.Frag) : Sp := fun vs H Q _ => ∃ (p l : Addr) (v : V) (ds : List PyData) (n : Nat), vs = [.ref p, v] ∧ PenAt H p l (n + ds.length) ∧ Sq K H v ds ∧ ds.length ≤ 1000 ∧
  ∀ q es H', es.Perm ds → H q = none → LsAt K H' q es → PenAt H' p l n → But p H H' → Q (.ref q) H'
section
variable {P : Program} {w : World} {K : PySem.W.Frag} {mg : Str → Option Value} {base : Heap}
theorem scPen : FnScope ["script", "fold", "cell"] ["script"] (defScope sPen) := ⟨rfl, rfl, rfl, by decide +kernel, rfl, by decide +kernel, by decide +kernel⟩
theorem ok_Pen (D : DefAt K mg "_law_pen" sPen) (B : Blt mg)  : Callee P w K mg base CX0 "_law_pen" 1 ["script"] (spPen K) := by
  refine callee_of D scPen (fun _ _ _ _ _ _ us hl => match us, hl with | [_], _ => rfl) (fun vs H Q E h => ?_) (fun f cdv A outer s H vs Q E hG hr h => ?_)
  · obtain ⟨a, ns, rfl, _⟩ := h
    rfl
  · obtain ⟨a, ns, rfl, hS, hlen, k⟩ := h
    have hu : (A.deeper (PyProof.Rows.envOfC "_law_pen" (defScope sPen) s.heap.objs.size f cdv)).units + 64 < cLine := hr.units
    have hu1 : (A.deeper (PyProof.Rows.envOfC "_law_pen" (defScope sPen) s.heap.objs.size f cdv)).units + 1 < cLine := by omega
    have hu2 : (A.deeper (PyProof.Rows.envOfC "_law_pen" (defScope sPen) s.heap.objs.size f cdv)).units < cLine := by omega
    refine ⟨_, (pss_cons (ps_set (i := 1) scPen.nd rfl (Or.inl rfl) pe_int)
      (pss_cons (ps_for PassesOwn.never rfl (pi_list (pv 0)) (pg_name (i := 2) scPen.nd rfl (Or.inl rfl))
        (pss_one (ps_set (i := 1) scPen.nd rfl (Or.inl rfl) (pe_op op_mod (pe_callTy call_int1 (by rfl) B.int (by decide +kernel) (pa_cons (pe_op op_add (pe_op op_mul (pv 1) pe_int) (pv 2)) pa_nil)) pe_int))))
      (pss_one (ps_ret (pe_disp (pps_cons pe_str (pe_callTy call_list_of (by rfl) B.list (by decide +kernel) (pa_cons (pv 0) pa_nil)) (pps_cons pe_str pe_int (pps_cons pe_str pe_int (pps_cons pe_str pe_int (pps_cons pe_str (pv 1) pps_nil))))) (by rfl) (by rfl) (fun z => by cases z) (by decide)))))), ?_⟩
    refine ⟨_, rfl, a, rfl, ⟨_, hS⟩, for_list (K := K) (a := a) (xs := ns.map V.int) (fun i σ H2 => ∃ (f : Int) (v : Option V), σ = [some (.ref a), some (.int f), v] ∧ H2 = H ∧ 0 ≤ f ∧ f < 1000000009)
      ⟨0, none, rfl, rfl, by decide, by decide⟩ (fun i σ H2 _ ⟨_, _, _, e, _⟩ => by rw [e]; exact hS) ?_ ?_⟩
    · rintro i y σ H2 hi ⟨f, v, rfl, rfl, h0, h1⟩
      obtain ⟨z, rfl⟩ : ∃ z, y = V.int z := by
        rw [List.getElem?_map] at hi
        cases e : ns[i]? with
        | none =>
          rw [e] at hi
          cases hi
        | some z =>
          rw [e] at hi
          exact ⟨z, (Option.some.inj hi).symm⟩
      refine ⟨_, rfl, _, _, rfl, rfl, .inr ⟨by decide, by decide⟩, _, rfl, _, _, rfl, rfl, .inl ⟨_, rfl, _, _, rfl, rfl, (by show (0 : Int) < 1000000009; decide), ?_⟩⟩
      exact ⟨_, some (.int z), rfl, rfl, Int.emod_nonneg _ (by decide), Int.emod_lt_of_pos _ (by decide)⟩
    · rintro σ H2 ⟨f, v, rfl, rfl, h0, h1⟩
      intro p hp
      refine ⟨_, rfl, a, _, rfl, .inl (Same.seq (Same.new hp) hS), fun l hl => ?_⟩
      have npl : p ≠ l := fun e => by
        rw [e, upd_same] at hl
        cases hl
      have hlH : H2 l = none := (Same.new hp).free hl
      refine ⟨_, rfl, ?_⟩
      refine ⟨by rw [upd_ne npl, upd_same], [(kCells, .ref l), (kAt, .int 0), (kDig, .int 0), (kCount, .int 0), (kFold, .int f)], rfl, (by show 5 ≤ 15; decide), ?_⟩
      have em : mergeK [] [(kCells, V.ref l), (kAt, .int 0), (kDig, .int 0), (kCount, .int 0), (kFold, .int f)] = penKV l 0 0 0 f := by
        simp only [mergeK, List.foldl_cons, List.foldl_nil]
        simp only [putK, List.any_cons, List.any_nil, List.map_cons, List.map_nil, decide_eq_false ne12, decide_eq_false ne13, decide_eq_false ne14, decide_eq_false ne15, decide_eq_false ne23, decide_eq_false ne24, decide_eq_false ne25, decide_eq_false ne34, decide_eq_false ne35, decide_eq_false ne45, Bool.or_false, if_neg Bool.false_ne_true, List.cons_append, List.nil_append]
        rfl
      rw [em]
      refine k p l _ hp hlH (fun b o e => ?_) ⟨⟨ns, 0, 0, 0, f, upd_same, ?_, hlen, by decide, by decide, by decide, by decide, h0, by omega⟩⟩
      · rw [upd_ne (ne_of_none e hp), upd_ne (ne_of_none e hlH), upd_ne (ne_of_none e hp)]
        exact e
      · rw [upd_ne npl.symm, upd_same]
end
section
variable {P : Program} {w : World} {K : PySem.W.Frag} {mg : Str → Option Value} {base : Heap}
theorem scDraw : FnScope ["pen", "many", "cell", "digit", "blend"] ["pen", "many"] (defScope sDraw) := ⟨rfl, rfl, rfl, by decide +kernel, rfl, by decide +kernel, by decide +kernel⟩
theorem ok_Draw (D : DefAt K mg "_law_draw" sDraw) (B : Blt mg)  : Callee P w K mg base CX0 "_law_draw" 1 ["pen", "many"] spDraw := by
  refine callee_of D scDraw (fun _ _ _ _ _ _ us hl => match us, hl with | [_, _], _ => rfl) (fun vs H Q E h => ?_) (fun f cdv A outer s H vs Q E hG hr h => ?_)
  · obtain ⟨p, l, m, n, rfl, _⟩ := h
    rfl
  · obtain ⟨p, l, m, n, rfl, hP, hm0, hm1, k⟩ := h
    have hu : (A.deeper (PyProof.Rows.envOfC "_law_draw" (defScope sDraw) s.heap.objs.size f cdv)).units + 64 < cLine := hr.units
    have hu1 : (A.deeper (PyProof.Rows.envOfC "_law_draw" (defScope sDraw) s.heap.objs.size f cdv)).units + 1 < cLine := by omega
    have hu2 : (A.deeper (PyProof.Rows.envOfC "_law_draw" (defScope sDraw) s.heap.objs.size f cdv)).units < cLine := by omega
    refine ⟨_, (pss_cons (ps_dput hu1 (pv 0) pe_str (pe_op op_add (pe_dget hu1 (pv 0) pe_str (fun _ _ => rfl)) pe_int) rfl)
      (C8.pss_cut (ps_if (PW.pt (pw_and (pt_cmpR op_eq (pe_dget hu1 (pv 0) pe_str (fun _ _ => rfl)) pe_int (nomark _)) (pw_and1 (pt_cmpR op_lt (pe_dget hu1 (pv 0) pe_str (fun _ _ => rfl)) (pe_callB call_len_seq (by rfl) B.len PySem.boot_len (pa_cons (pe_dget hu1 (pv 0) pe_str (fun _ _ => rfl)) pa_nil)) (nomark _)))))
          (pss_cons (ps_set (i := 2) scDraw.nd rfl (Or.inl rfl) (pe_ix ix_list (pe_dget hu1 (pv 0) pe_str (fun _ _ => rfl)) (pe_dget hu1 (pv 0) pe_str (fun _ _ => rfl)) (fun _ _ => rfl)))
          (pss_cons (ps_dput hu1 (pv 0) pe_str (pe_op op_add (pe_dget hu1 (pv 0) pe_str (fun _ _ => rfl)) pe_int) rfl)
          (pss_one (ps_if (pt_cmpR op_ge (pv 2) (pe_op op_pow pe_int pe_int) (nomark _))
            (pss_one (ps_dput hu1 (pv 0) pe_str (pe_op op_sub (pv 2) (pe_op op_pow pe_int pe_int)) rfl))
            (pss_one (ps_dput hu1 (pv 0) pe_str (pe_op op_mod (pe_callTy call_int1 (by rfl) B.int (by decide +kernel) (pa_cons (pe_op op_add (pe_op op_mul (pe_dget hu1 (pv 0) pe_str (fun _ _ => rfl)) pe_int) (pv 2)) pa_nil)) pe_int) rfl))))))
          pss_nil)
      (pss_cons (ps_if (pt_cmpR op_gt (pe_dget hu1 (pv 0) pe_str (fun _ _ => rfl)) pe_int (nomark _))
          (pss_cons (ps_set (i := 3) scDraw.nd rfl (Or.inl rfl) (pe_op op_mod (pe_callTy call_int1 (by rfl) B.int (by decide +kernel) (pa_cons (pe_dget hu1 (pv 0) pe_str (fun _ _ => rfl)) pa_nil)) (pv 1)))
          (pss_cons (ps_dput hu1 (pv 0) pe_str (pe_op op_fdivW (pe_dget hu1 (pv 0) pe_str (fun _ _ => rfl)) (pv 1)) rfl)
          (pss_one (ps_ret (pv 3)))))
          pss_nil)
      (pss_cons (ps_set (i := 4) scDraw.nd rfl (Or.inl rfl) (pe_op op_add (pe_op op_add (pe_dget hu1 (pv 0) pe_str (fun _ _ => rfl)) (pe_op op_mul (pe_dget hu1 (pv 0) pe_str (fun _ _ => rfl)) pe_int)) pe_int))
      (pss_one (ps_ret (pe_op op_mod (pe_op op_fdiv (pe_callTy call_int1 (by rfl) B.int (by decide +kernel) (pa_cons (pe_op op_mod (pe_op op_pow (pv 4) pe_int) pe_int) pa_nil)) pe_int) (pv 1)))))))), ?_⟩
    obtain ⟨cells, t, d, c, f, h1, h2, h3, h4, h5, h6, h7, h8, h9⟩ := hP.ex
    have npl : l ≠ p := ne_of h2 h1 (by intro q; cases q)
    have five : ∀ (l : Addr) (t d c f : Int), (penKV l t d c f).length < sizeLine := fun l t d c f => by show 5 < sizeLine; decide
    have gC : ∀ {H' : Hp} {t d c f : Int}, H' p = some (.dK (penKV l t d c f)) → DGet H' p (.str "cells") (some (.ref l)) := fun {H' t d c f} e => by have z := DGet.k (k := kCells) e; rw [pen_cells] at z; exact z
    have gA : ∀ {H' : Hp} {t d c f : Int}, H' p = some (.dK (penKV l t d c f)) → DGet H' p (.str "at") (some (.int t)) := fun {H' t d c f} e => by have z := DGet.k (k := kAt) e; rw [pen_at] at z; exact z
    have gD : ∀ {H' : Hp} {t d c f : Int}, H' p = some (.dK (penKV l t d c f)) → DGet H' p (.str "digits") (some (.int d)) := fun {H' t d c f} e => by have z := DGet.k (k := kDig) e; rw [pen_dig] at z; exact z
    have gN : ∀ {H' : Hp} {t d c f : Int}, H' p = some (.dK (penKV l t d c f)) → DGet H' p (.str "count") (some (.int c)) := fun {H' t d c f} e => by have z := DGet.k (k := kCount) e; rw [pen_count] at z; exact z
    have gF : ∀ {H' : Hp} {t d c f : Int}, H' p = some (.dK (penKV l t d c f)) → DGet H' p (.str "fold") (some (.int f)) := fun {H' t d c f} e => by have z := DGet.k (k := kFold) e; rw [pen_fold] at z; exact z
    have pA : ∀ {H' : Hp} {t d c f : Int} (y : Int), H' p = some (.dK (penKV l t d c f)) → DPut H' p (.str "at") (.int y) (upd H' p (.dK (penKV l y d c f))) := fun {H' t d c f} y e => by have z := DPut.k (k := kAt) (v := .int y) e (five ..); rw [put_at] at z; exact z
    have pD : ∀ {H' : Hp} {t d c f : Int} (y : Int), H' p = some (.dK (penKV l t d c f)) → DPut H' p (.str "digits") (.int y) (upd H' p (.dK (penKV l t y c f))) := fun {H' t d c f} y e => by have z := DPut.k (k := kDig) (v := .int y) e (five ..); rw [put_dig] at z; exact z
    have pN : ∀ {H' : Hp} {t d c f : Int} (y : Int), H' p = some (.dK (penKV l t d c f)) → DPut H' p (.str "count") (.int y) (upd H' p (.dK (penKV l t d y f))) := fun {H' t d c f} y e => by have z := DPut.k (k := kCount) (v := .int y) e (five ..); rw [put_count] at z; exact z
    have pF : ∀ {H' : Hp} {t d c f : Int} (y : Int), H' p = some (.dK (penKV l t d c f)) → DPut H' p (.str "fold") (.int y) (upd H' p (.dK (penKV l t d c y))) := fun {H' t d c f} y e => by have z := DPut.k (k := kFold) (v := .int y) e (five ..); rw [put_fold] at z; exact z
    refine ⟨_, rfl, p, _, rfl, gN h1, _, _, rfl, rfl, _, rfl, p, _, rfl, pN _ h1, ?_⟩
    refine ⟨fun σ' H' => ∃ (v : Option V) (t d f : Int), σ' = [some (.ref p), some (.int m), v, none, none] ∧ H' p = some (.dK (penKV l t d (c + 1) f)) ∧ H' l = some (.lst (cells.map V.int)) ∧ But p H H' ∧ 0 ≤ t ∧ 0 ≤ d ∧ 0 ≤ f ∧ f < 2 ^ 32, ?_, ?_⟩
    · refine ⟨_, rfl, p, _, rfl, gD upd_same, rfl, _, rfl, ite2 (fun hd => ?_) (fun hd => ?_)⟩
      · refine ⟨_, rfl, p, _, rfl, gA upd_same, _, rfl, p, _, rfl, gC upd_same, l, _, rfl, .inl (SqL.of (by rw [upd_ne npl]; exact h2)), _, _, rfl, rfl, _, rfl, ite2 (fun ht => ?_) (fun ht => ?_)⟩
        · have ht' : t < (cells.length : Int) := by
            have z := of_decide_eq_true ht
            rw [List.length_map] at z
            exact z
          obtain ⟨j, rfl⟩ : ∃ j : Nat, t = (j : Int) := ⟨t.toNat, by omega⟩
          have hj : j < cells.length := by omega
          refine ⟨_, rfl, p, _, rfl, gC upd_same, _, rfl, p, _, rfl, gA upd_same, l, _, _, .int cells[j], rfl, rfl, SqL.of (by rw [upd_ne npl]; exact h2), at_of (j := j) rfl (by rw [List.getElem?_map, List.getElem?_eq_getElem hj]; rfl), ?_⟩
          refine ⟨_, rfl, p, _, rfl, gA upd_same, _, _, rfl, rfl, _, rfl, p, _, rfl, pA _ upd_same, ?_⟩
          refine ⟨_, rfl, _, _, rfl, rfl, ⟨by decide, by decide, by decide⟩, _, _, rfl, rfl, _, rfl, ite2 (fun hc => ?_) (fun hc => ?_)⟩
          · have hc' := of_decide_eq_true hc
            refine ⟨_, rfl, _, _, rfl, rfl, ⟨by decide, by decide, by decide⟩, _, _, rfl, rfl, _, rfl, p, _, rfl, pD _ upd_same, ?_⟩
            refine ⟨some (.int cells[j]), _, _, f, rfl, upd_same, by rw [upd_ne npl, upd_ne npl, upd_ne npl]; exact h2, ?_, by omega, by omega, h8, h9⟩
            exact But.trans But.upd (But.trans But.upd But.upd)
          · refine ⟨_, rfl, p, _, rfl, gF upd_same, _, _, rfl, rfl, .inr ⟨by decide, by decide⟩, _, rfl, _, _, rfl, rfl, .inl ⟨_, rfl, _, _, rfl, rfl, (by show (0 : Int) < 2147483563; decide), _, rfl, p, _, rfl, pF _ upd_same, ?_⟩⟩
            refine ⟨some (.int cells[j]), _, d, _, rfl, upd_same, by rw [upd_ne npl, upd_ne npl, upd_ne npl]; exact h2, But.trans But.upd (But.trans But.upd But.upd), by omega, h5, Int.emod_nonneg _ (by decide), ?_⟩
            exact Int.lt_trans (Int.emod_lt_of_pos _ (by decide)) (by decide)
        · exact ⟨none, t, d, f, rfl, upd_same, by rw [upd_ne npl]; exact h2, But.upd, h4, h5, h8, h9⟩
      · exact ⟨none, t, d, f, rfl, upd_same, by rw [upd_ne npl]; exact h2, But.upd, h4, h5, h8, h9⟩
    · rintro σ' H' ⟨v, t, d, f, rfl, e1, e2, bt, b4, b5, b8, b9⟩
      refine ⟨_, rfl, p, _, rfl, gD e1, _, _, rfl, rfl, _, rfl, ite2 (fun hd => ?_) (fun hd => ?_)⟩
      · refine ⟨_, rfl, p, _, rfl, gD e1, .inl ⟨_, rfl, _, rfl, _, _, rfl, rfl, hm0, ?_⟩⟩
        refine ⟨_, rfl, p, _, rfl, gD e1, _, rfl, _, _, rfl, rfl, wide_div (b := 62) hm0 (by omega) (by decide) (by decide), _, rfl, p, _, rfl, pD _ e1, ?_⟩
        refine ⟨_, rfl, ?_⟩
        refine k _ _ (Int.emod_nonneg _ (by omega)) (Int.emod_lt_of_pos _ hm0) ⟨⟨cells, t, d / m, c + 1, f, upd_same, by rw [upd_ne npl]; exact e2, h3, b4, Int.ediv_nonneg b5 (by omega), by omega, by omega, b8, b9⟩⟩ (bt.trans But.upd)
      · refine ⟨_, rfl, p, _, rfl, gF e1, _, rfl, p, _, rfl, gN e1, _, _, rfl, rfl, .inr ⟨by decide, by decide⟩, _, _, rfl, rfl, _, _, rfl, rfl, ?_⟩
        refine ⟨_, rfl, _, _, rfl, rfl, ⟨by decide, by decide, by omega⟩, _, _, rfl, rfl, (by show (0 : Int) < 2305843009213693951; decide), .inl ⟨_, rfl, _, _, rfl, rfl, ⟨by decide, by decide⟩, _, rfl, _, _, rfl, rfl, hm0, ?_⟩⟩
        refine k _ _ (Int.emod_nonneg _ (by omega)) (Int.emod_lt_of_pos _ hm0) ⟨⟨cells, t, d, c + 1, f, e1, e2, h3, b4, b5, by omega, by omega, b8, b9⟩⟩ bt
end
section
variable {P : Program} {w : World} {K : PySem.W.Frag} {mg : Str → Option Value} {base : Heap}
theorem scPick : FnScope ["pen", "some"] ["pen", "some"] (defScope sPick) := ⟨rfl, rfl, rfl, by decide +kernel, rfl, by decide +kernel, by decide +kernel⟩
theorem ok_Pick (D : DefAt K mg "_law_pick" sPick) (B : Blt mg) (cDraw : Callee P w K mg base CX0 "_law_draw" 1 ["pen", "many"] spDraw) : Callee P w K mg base CX0 "_law_pick" 2 ["pen", "some"] (spPick K) := by
  refine callee_of D scPick (fun _ _ _ _ _ _ us hl => match us, hl with | [_, _], _ => rfl) (fun vs H Q E h => ?_) (fun f cdv A outer s H vs Q E hG hr h => ?_)
  · obtain ⟨p, l, v, ds, n, rfl, _⟩ := h
    rfl
  · obtain ⟨p, l, v, ds, n, rfl, hP, hS, hne, hlen, k⟩ := h
    have hu : (A.deeper (PyProof.Rows.envOfC "_law_pick" (defScope sPick) s.heap.objs.size f cdv)).units + 64 < cLine := hr.units
    have hu1 : (A.deeper (PyProof.Rows.envOfC "_law_pick" (defScope sPick) s.heap.objs.size f cdv)).units + 1 < cLine := by omega
    have hu2 : (A.deeper (PyProof.Rows.envOfC "_law_pick" (defScope sPick) s.heap.objs.size f cdv)).units < cLine := by omega
    refine ⟨_, (pss_one (ps_ret (pe_ix ix_sq (pv 1) (pe_fn cDraw hG (hr.mono (by decide)) pass0 (pa_cons (pv 0) (pa_cons (pe_callB call_lenS (by rfl) B.len (by decide +kernel) (pa_cons (pv 1) pa_nil)) pa_nil))) (fun _ _ => rfl)))), ?_⟩
    have pos : 0 < ds.length := List.length_pos_iff.mpr hne
    refine ⟨_, rfl, _, rfl, _, rfl, v, ds, rfl, hS, p, l, (ds.length : Int), n, rfl, hP, by omega, by omega, fun r H' r0 r1 hP' bt => ?_⟩
    obtain ⟨j, rfl⟩ : ∃ j : Nat, r = (j : Int) := ⟨r.toNat, by omega⟩
    have hj : j < ds.length := by omega
    exact ⟨ds, _, ds[j], hS.but hP bt, rfl, atI_of hj, fun x t => k x _ H' (List.getElem_mem hj) t hP' bt⟩
end
section
variable {P : Program} {w : World} {K : PySem.W.Frag} {mg : Str → Option Value} {base : Heap}
theorem scShuffled : FnScope ["pen", "some", "remain", "found", "lap"] ["pen", "some"] (defScope sShuffled) := ⟨rfl, rfl, rfl, by decide +kernel, rfl, by decide +kernel, by decide +kernel⟩
theorem ok_Shuffled (D : DefAt K mg "_law_shuffled" sShuffled) (B : Blt mg) (cDraw : Callee P w K mg base CX0 "_law_draw" 1 ["pen", "many"] spDraw) : Callee P w K mg base CX0 "_law_shuffled" 2 ["pen", "some"] (spShuf K) := by
  refine callee_of D scShuffled (fun _ _ _ _ _ _ us hl => match us, hl with | [_, _], _ => rfl) (fun vs H Q E h => ?_) (fun f cdv A outer s H vs Q E hG hr h => ?_)
  · obtain ⟨p, l, v, ds, n, rfl, _⟩ := h
    rfl
  · obtain ⟨p, l, v0, ds, n, rfl, hP, hS, hlen, k⟩ := h
    have hu : (A.deeper (PyProof.Rows.envOfC "_law_shuffled" (defScope sShuffled) s.heap.objs.size f cdv)).units + 64 < cLine := hr.units
    have hu1 : (A.deeper (PyProof.Rows.envOfC "_law_shuffled" (defScope sShuffled) s.heap.objs.size f cdv)).units + 1 < cLine := by omega
    have hu2 : (A.deeper (PyProof.Rows.envOfC "_law_shuffled" (defScope sShuffled) s.heap.objs.size f cdv)).units < cLine := by omega
    refine ⟨_, (pss_cons (ps_par (i := 2) (j := 3) rfl scShuffled.nd rfl rfl (by decide) rfl rfl (pa_cons (pe_callTy call_listS (by rfl) B.list (by decide +kernel) (pa_cons (pv 1) pa_nil)) (pa_cons (pe_lst pa_nil) pa_nil)) (by rfl))
      (pss_cons (ps_for PassesOwn.never rfl (pi_range1 rfl B.range (pa_cons (pe_callB call_lenS (by rfl) B.len (by decide +kernel) (pa_cons (pv 1) pa_nil)) pa_nil)) (pg_name (i := 4) scShuffled.nd rfl (Or.inl rfl)) (pss_one (ps_expr (pe_bm PySem.F.plainAttrs_list PySem.F.slot_list_append PySem.F.type_list_append mt_append (pv 3) (pa_cons (pe_bm PySem.F.plainAttrs_list PySem.F.slot_list_pop PySem.F.type_list_pop mt_popAt (pv 2) (pa_cons (pe_fn cDraw hG (hr.mono (by decide)) pass0 (pa_cons (pv 0) (pa_cons (pe_callB call_lenS (by rfl) B.len (by decide +kernel) (pa_cons (pv 2) pa_nil)) pa_nil))) pa_nil)) pa_nil)))))
      (pss_one (ps_ret (pv 3))))), ?_⟩
    refine ⟨_, rfl, v0, ds, rfl, hS, fun r H1 nr s1 lr => ?_⟩
    refine ⟨by show 0 ≤ sizeLine; decide, fun q nq => ⟨_, _, rfl, ?_⟩⟩
    have s2 : Same H1 (upd H1 q (.lst [])) := Same.new nq
    have s12 := s1.trans s2
    have nqH : H q = none := s1.free nq
    have nqr : q ≠ r := fun e => by
      obtain ⟨xs, z, _⟩ := lr
      rw [e, z] at nq
      cases nq
    refine ⟨_, rfl, v0, ds, rfl, hS.same s12, _, rfl, by omega, by omega, ?_⟩
    refine for_range (lo := 0) (n := ds.length) (fun i σ H3 => ∃ (es rest : List PyData) (v : Option V), σ = [some (.ref p), some v0, some (.ref r), some (.ref q), v] ∧ LsAt K H3 r rest ∧ LsAt K H3 q es ∧
        (es ++ rest).Perm ds ∧ es.length = i ∧ PenAt H3 p l (n + rest.length) ∧ But p H H3)
      ⟨[], ds, none, rfl, lr.same s2, ls_new nq .nil, List.Perm.refl _, rfl, hP.same s12, But.of s12⟩ ?_ ?_
    · rintro i σ H3 hi ⟨es, rest, v, rfl, lR, lQ, pm, le, hP3, bt⟩
      have lens : es.length + rest.length = ds.length := by
        rw [← List.length_append]
        exact pm.length_eq
      have posR : 0 < rest.length := by omega
      refine ⟨_, rfl, lQ.ty, _, rfl, lR.ty, _, rfl, _, rfl, .ref r, rest, rfl, lR.sq, p, l, (rest.length : Int), n + (rest.length - 1), rfl, by rw [show n + (rest.length - 1) + 1 = n + rest.length by omega]; exact hP3, by omega, by omega, fun j H4 j0 j1 hP4 bt4 => ?_⟩
      obtain ⟨j, rfl⟩ : ∃ k : Nat, j = (k : Int) := ⟨j.toNat, by omega⟩
      have hj : j < rest.length := by omega
      obtain ⟨kvs, hpk⟩ := hP3.some
      have lR4 : LsAt K H4 r rest := by
        refine lR.ext (Ext.but bt4) (.pen hP3 .nil) ?_
        obtain ⟨xs, z, _⟩ := lR
        simpa using ne_of z hpk (by intro q; cases q)
      have lQ4 : LsAt K H4 q es := by
        refine lQ.ext (Ext.but bt4) (.pen hP3 .nil) ?_
        obtain ⟨xs, z, _⟩ := lQ
        simpa using ne_of z hpk (by intro q; cases q)
      obtain ⟨xs, hx, rx⟩ := lR4
      obtain ⟨ys, hy, ry⟩ := lQ4
      obtain ⟨y, hyj, ty⟩ := rx.get (i := j) (d := rest[j]) (List.getElem?_eq_getElem hj)
      have hjx : j < xs.length := by rw [rx.length]; exact hj
      refine ⟨r, xs, (j : Int), j, y, rfl, rfl, hx, by omega, by omega, seq_ix hjx, hyj, ?_⟩
      have hyl : ys.length < sizeLine := by
        rw [ry.length]
        have : (1000 : Nat) < sizeLine := by decide
        omega
      refine ⟨q, ys, _, rfl, rfl, by rw [upd_ne nqr]; exact hy, hyl, ?_⟩
      obtain ⟨kvs4, hp4⟩ := hP4.some
      have nrp : r ≠ p := ne_of hx hp4 (by intro q; cases q)
      have nqp : q ≠ p := ne_of hy hp4 (by intro q; cases q)
      have e5 : Ext [r] H4 (upd H4 r (.lst (xs.eraseIdx j))) := Ext.upd (by simp)
      have n5 : NoTup H4 [r] := .list hx .nil
      have hy5 : upd H4 r (.lst (xs.eraseIdx j)) q = some (.lst ys) := by rw [upd_ne nqr]; exact hy
      have e6 : Ext [q] (upd H4 r (.lst (xs.eraseIdx j))) (upd (upd H4 r (.lst (xs.eraseIdx j))) q (.lst (ys ++ [y]))) := Ext.upd (by simp)
      have n6 : NoTup (upd H4 r (.lst (xs.eraseIdx j))) [q] := .list hy5 .nil
      refine ⟨es ++ [rest[j]], rest.eraseIdx j, _, rfl, ?_, ?_, ?_, by rw [List.length_append, le]; rfl, ?_, ?_⟩
      · exact (ls_put hx (rx.erase j)).ext e6 n6 (by simpa using nqr.symm)
      · exact ls_put hy5 ((ry.keep (.ext e5 n5)).append (.one (ty.keep (.ext e5 n5))))
      · have z : (rest[j] :: rest.eraseIdx j).Perm rest := by
          rw [List.eraseIdx_eq_take_drop_succ]
          have z2 : rest.take j ++ (rest[j] :: rest.drop (j + 1)) = rest := by
            rw [← List.drop_eq_getElem_cons hj, List.take_append_drop]
          exact (List.perm_middle.symm.trans (by rw [z2]))
        have z3 : (es ++ [rest[j]] ++ rest.eraseIdx j).Perm (es ++ rest) := by
          rw [List.append_assoc]
          exact List.Perm.append_left es z
        exact z3.trans pm
      · rw [List.length_eraseIdx_of_lt hj]
        have nrl : r ≠ l := (hP.ne nr).2
        have nql : q ≠ l := (hP.ne nqH).2
        have hP5 := (hP4.ext e5 (by simpa using nrp.symm) (by simpa using nrl.symm)).ext e6 (by simpa using nqp.symm) (by simpa using nql.symm)
        exact hP5
      · intro b o e hb
        have hb4 := bt4 b o (bt b o e hb) hb
        have nbr : b ≠ r := fun z => by
          rw [z, nr] at e
          cases e
        have nbq : b ≠ q := fun z => by
          rw [z, nqH] at e
          cases e
        rw [upd_ne nbq, upd_ne nbr]
        exact hb4
    · rintro σ H3 ⟨es, rest, v, rfl, lR, lQ, pm, le, hP3, bt⟩
      have lens : es.length + rest.length = ds.length := by
        rw [← List.length_append]
        exact pm.length_eq
      have r0 : rest = [] := List.eq_nil_of_length_eq_zero (by omega)
      subst r0
      rw [List.append_nil] at pm
      exact ⟨_, rfl, k q es H3 pm nqH lQ hP3 bt⟩
end

end Og

set_option Elab.async false
set_option linter.all false
set_option maxRecDepth 100000
set_option maxHeartbeats 8000000
namespace Og
open PySem L2
theorem atI0 {α : Type} {x : α} {r : List α} : atI (x :: r) 0 = some x := atI_of (xs := x :: r) (j := 0) (by simp)
def pOwn (k : Str) (e : Str × Str) : Option PyData := if e.2 = k then some (.str e.1) else none
theorem kw_not_pen {kw : Kw} {l : Addr} {t d c f : Int} (h : some (HO.dK (kwKV kw)) = some (HO.dK (penKV l t d c f))) : False := by
  injection h with h
  injection h with h
  cases kw with
  | nil => cases h
  | cons e r =>
    injection h with h _
    injection h with _ h
    cases h
def pFresh (kw : Kw) (x : Str) : Option PyData := if kw.lookup x = none then some (.str x) else none
theorem fresh_map {kw : Kw} : freshNames.filterMap (pFresh kw) = (freshNames.filter (fun x => (kw.lookup x).isNone)).map PyData.str := by
  generalize freshNames = xs
  induction xs with
  | nil => rfl
  | cons x r ih =>
    rw [List.filterMap_cons, List.filter_cons, ih]
    cases e : kw.lookup x with
    | none => simp [pFresh, e]
    | some y => simp [pFresh, e]
theorem fresh_ok : ∀ x ∈ freshNames, PyData.strOk x = true := by decide +kernel
theorem putK_fresh {kw : Kw} {x k : Str} (h : kw.lookup x = none) : putK (kwKV kw) (.inr x) (.str k) = kwKV (kw ++ [(x, k)]) := by
  have z : ((kwKV kw).any fun kv => decide (kv.1 = (.inr x : Key))) = false := by
    rw [valV_any, kwKV_val, h]
    rfl
  unfold putK
  rw [z, if_neg Bool.false_ne_true]
  unfold kwKV
  rw [List.map_append]
  rfl
theorem kw_snoc {ks : Kds} {kw : Kw} {x k : Str} (h : KwOk ks kw) (hx : x ∈ freshNames) (hn : kw.lookup x = none) (hk : k ∈ ks.map (·.1)) : KwOk ks (kw ++ [(x, k)]) := by
  refine ⟨?_, fun e he => ?_, fun e he => ?_⟩
  · rw [List.map_append, List.nodup_append]
    refine ⟨h.nd, by simp, ?_⟩
    intro y hy z hz e
    rw [List.map_cons, List.map_nil, List.mem_singleton] at hz
    subst e hz
    obtain ⟨ent, he, q⟩ := List.mem_map.mp hy
    have w := mem_lookup (x := ent.1) (y := ent.2) h.nd he
    rw [q] at w
    rw [hn] at w
    cases w
  · rcases List.mem_append.mp he with he | he
    · exact h.name e he
    · rw [List.mem_singleton.mp he]
      exact hx
  · rcases List.mem_append.mp he with he | he
    · exact h.kind e he
    · rw [List.mem_singleton.mp he]
      exact hk
theorem kds_at {ks : Kds} {k : Str} (h : k ∈ ks.map (·.1)) : ∃ its, (k, its) ∈ ks ∧ True := by
  obtain ⟨e, he, rfl⟩ := List.mem_map.mp h
  exact ⟨e.2, he, True.intro⟩
theorem DcAt.get {K : PySem.W.Frag} {H : Hp} {a : Addr} {ds : List (Str × PyData)} {x : Str} {d : PyData} (h : DcAt K H a ds) (nd : (ds.map (·.1)).Nodup) (hm : (x, d) ∈ ds) : ∃ v, DGet H a (.str x) (some v) ∧ Tp K H v d := by
  obtain ⟨kvs, e, pr⟩ := h
  have key : ∀ {ds : List (Str × PyData)} {kvs : List (Key × V)}, Paired (fun (d : Str × PyData) (kv : Key × V) => kv.1 = .inr d.1 ∧ Tp K H kv.2 d.2) ds kvs → (ds.map (·.1)).Nodup → (x, d) ∈ ds → ∃ v, valV kvs (.inr x) = some v ∧ Tp K H v d := by
    intro ds kvs pr
    induction pr with
    | nil =>
      intro _ h
      cases h
    | @cons dd kv ds kvs h1 h2 ih =>
      intro nd hm
      rw [List.map_cons, List.nodup_cons] at nd
      obtain ⟨k1, v1⟩ := kv
      obtain ⟨rfl, t⟩ := h1
      rcases List.mem_cons.mp hm with rfl | hm
      · exact ⟨v1, valV_pos rfl, t⟩
      · have ne : ¬ (Sum.inr dd.1 : Key) = .inr x := fun q => nd.1 (by
          injection q with q
          rw [q]
          exact List.mem_map.mpr ⟨_, hm, rfl⟩)
        obtain ⟨v, e1, e2⟩ := ih nd.2 hm
        exact ⟨v, by rw [valV_neg ne]; exact e1, e2⟩
  obtain ⟨v, e1, e2⟩ := key pr nd hm
  exact ⟨v, by rw [← e1]; exact DGet.k (k := .inr x) e, e2⟩
def spTerm (K : PySem.W.Frag) : Sp := fun vs H Q _ => ∃ (p l a : Addr) (kv : V) (ks : Kds) (k : Str) (kw : Kw) (n : Nat), vs = [.ref p, kv, .str k, .ref a] ∧ PenAt H p l (n + 2) ∧ Pk K H kv (kindsDs ks) ∧ KnAt H a kw ∧
  KdsOk ks ∧ KwOk ks kw ∧ k ∈ ks.map (·.1) ∧
  ∀ z t more H', Tp K H' z t.d → KnAt H' a (kw ++ more) → KwOk ks (kw ++ more) → PenAt H' p l n → Ext [p, a] H H' → TmOk ks (kw ++ more) k t → (∀ e ∈ more, t = .any e.1) → Q z H'
section
variable {P : Program} {w : World} {K : PySem.W.Frag} {mg : Str → Option Value} {base : Heap}
theorem scBookTerm : FnScope ["pen", "kinds", "kind", "known", "own", "name", "way", "fresh"] ["pen", "kinds", "kind", "known"] (defScope sBookTerm) := ⟨rfl, rfl, rfl, by decide +kernel, rfl, by decide +kernel, by decide +kernel⟩
theorem ok_BookTerm (D : DefAt K mg "_law_book_term" sBookTerm) (B : Blt mg) (cDraw : Callee P w K mg base CX0 "_law_draw" 1 ["pen", "many"] spDraw) (cPick : Callee P w K mg base CX0 "_law_pick" 2 ["pen", "some"] (spPick K)) : Callee P w K mg base CX0 "_law_book_term" 3 ["pen", "kinds", "kind", "known"] (spTerm K) := by
  refine callee_of D scBookTerm (fun _ _ _ _ _ _ us hl => match us, hl with | [_, _, _, _], _ => rfl) (fun vs H Q E h => ?_) (fun f cdv A outer s H vs Q E hG hr h => ?_)
  · obtain ⟨p, l, a, kv, ks, k, kw, n, rfl, _⟩ := h
    rfl
  · obtain ⟨p, l, a, kv, ks, k, kw, n, rfl, hP, hK, hN, ok, kok, hk, fin⟩ := h
    have hu : (A.deeper (PyProof.Rows.envOfC "_law_book_term" (defScope sBookTerm) s.heap.objs.size f cdv)).units + 64 < cLine := hr.units
    have hu1 : (A.deeper (PyProof.Rows.envOfC "_law_book_term" (defScope sBookTerm) s.heap.objs.size f cdv)).units + 1 < cLine := by omega
    have hu2 : (A.deeper (PyProof.Rows.envOfC "_law_book_term" (defScope sBookTerm) s.heap.objs.size f cdv)).units < cLine := by omega
    refine ⟨_, (pss_cons (ps_lock (ps_setLc (i := 4) (own := [("name", 5)]) (g := (gName 5)) (by rfl) scBookTerm.nd rfl rfl (sw_true rfl rfl rfl (by decide +kernel)) (pi_keys (pv 3)) (blkOk_by (own := [("name", 5)]) (N := ["pen", "kinds", "kind", "known", "own", "name", "way", "fresh"]) (sc := defScope sBookTerm) (by decide +kernel)) (fun _ _ _ _ _ => (by exact pg_name (i := 5) scBookTerm.nd rfl (Or.inl rfl))) (fun _ _ _ _ _ => by exact pts_one (pt_cmpR op_eq (pe_dget hu1 (pv 3) (pv 5) (fun _ _ => rfl)) (pv 2) (nomark _))) (fun _ _ _ _ _ => by exact (pv 5))))
      (pss_cons (ps_set (i := 6) scBookTerm.nd rfl (Or.inl rfl) (pe_fn cDraw hG (hr.mono (by decide)) pass0 (pa_cons (pv 0) (pa_cons pe_int pa_nil))))
      (C8.pss_cut (ps_if (PW.pt (pw_and (pt_cmpR op_lt (pv 6) pe_int (nomark _)) (pw_and1 (pt_cmpR (op_neL0 hu) (pv 4) (pe_lst pa_nil) (nomark _))))) (pss_one (ps_ret (pe_tup (pa_cons pe_str (pa_cons (pe_fn cPick hG (hr.mono (by decide)) pass0 (pa_cons (pv 0) (pa_cons (pv 4) pa_nil))) pa_nil))))) pss_nil)
      (pss_cons (ps_setLc (i := 7) (own := [("name", 5)]) (g := (gName 5)) (by rfl) scBookTerm.nd rfl rfl (sw_true rfl rfl rfl (by decide +kernel)) (pi_list (pe_lst (pa_cons pe_str (pa_cons pe_str (pa_cons pe_str (pa_cons pe_str (pa_cons pe_str pa_nil))))))) (blkOk_by (own := [("name", 5)]) (N := ["pen", "kinds", "kind", "known", "own", "name", "way", "fresh"]) (sc := defScope sBookTerm) (by decide +kernel)) (fun _ _ _ _ _ => (by exact pg_name (i := 5) scBookTerm.nd rfl (Or.inl rfl))) (fun _ _ _ _ _ => by exact pts_one (pt_cmp (pc_dnotin hu1 (pv 5) (pv 3)))) (fun _ _ _ _ _ => by exact (pv 5)))
      (C8.pss_cut (ps_if (PW.pt (pw_and (pt_cmpR op_lt (pv 6) pe_int (nomark _)) (pw_and1 (pt_cmpR (op_neL0 hu) (pv 7) (pe_lst pa_nil) (nomark _))))) (pss_cons (ps_dput hu1 (pv 3) (pe_ix ix_sq (pv 7) pe_int (fun _ _ => rfl)) (pv 2) rfl)
      (pss_one (ps_ret (pe_tup (pa_cons pe_str (pa_cons (pe_ix ix_sq (pv 7) pe_int (fun _ _ => rfl)) pa_nil)))))) pss_nil)
      (pss_one (ps_ret (pe_tup (pa_cons pe_str (pa_cons (pe_fn cPick hG (hr.mono (by decide)) pass0 (pa_cons (pv 0) (pa_cons (pe_dget hu1 (pe_callTy (call_dictT rfl) (by rfl) B.dict (by decide +kernel) (pa_cons (pv 1) pa_nil)) (pv 2) (fun _ _ => rfl)) pa_nil))) pa_nil)))))))))), ?_⟩
    have nap : a ≠ p := by
      obtain ⟨kvs, e⟩ := hP.some
      intro z
      subst z
      obtain ⟨cells, t, d, c, f, h1, _⟩ := hP.ex
      have z := hN.symm.trans h1
      exact kw_not_pen z
    have nal : a ≠ l := by
      obtain ⟨xs, e⟩ := hP.list
      exact ne_of hN e (by intro q; cases q)
    have own_lt : ∀ (q : Str × Str → Option PyData), (kw.filterMap q).length ≤ 5 := fun q => Nat.le_trans (List.length_filterMap_le ..) kok.len
    have s5 : 5 < sizeLine := by decide
    refine ⟨a, .dK (kwKV kw), hN, True.intro, fun od => ?_⟩
    refine ⟨_, rfl, a, od, rfl, .inl ⟨kwKV kw, upd_same, fun D hD => ?_⟩⟩
    have nDa : D ≠ a := fun e => by
      rw [e, upd_same] at hD
      cases hD
    have hD0 : H D = none := by
      rw [upd_ne nDa] at hD
      exact hD
    refine lc_it walk_keys (LcN K D (Flt (upd H a (.frz od (.dK (kwKV kw)))) D (kwKV kw).length (fun i => kw[i]?.bind (pOwn k)))) Flt.start ?_ ?_ ?_
    · rintro i H3 hi ⟨ds, ⟨_, x, _⟩, _⟩
      exact x a _ upd_same (by simpa using nDa.symm)
    · rintro i x H3 H4 hi pv ⟨rfl, key, v, e, rfl⟩
      have hf : H4 a = some (.frz od (.dK (kwKV kw))) := by
        obtain ⟨ds, ⟨_, x, _⟩, _⟩ := pv
        exact x a _ upd_same (by simpa using nDa.symm)
      rw [kwKV, List.getElem?_map] at e
      obtain ⟨ent, e1, e2⟩ := Option.map_eq_some_iff.mp e
      cases e2
      have lk : valV (kwKV kw) (.inr ent.1) = some (.str ent.2) := by
        rw [kwKV_val, mem_lookup kok.nd (List.mem_of_getElem? e1)]
        rfl
      refine ⟨rfl, _, rfl, _, rfl, a, .str ent.2, rfl, .inl ⟨kwKV kw, .inr ent.1, .inr ⟨od, hf⟩, rfl, lk.symm⟩, _, rfl, rfl, _, rfl, ite2 (fun h => ?_) (fun h => ?_)⟩
      · refine ⟨_, rfl, Flt.yes pv hi (by rw [kwKV_len]; have := kok.len; omega) (Same.refl _) (.str ent.1) ?_⟩
        rw [e1]
        have h2 : ent.2 = k := by
          have z := of_decide_eq_true h
          injection z
        simp [pOwn, h2]
      · refine Flt.no pv hi (Same.refl _) ?_
        rw [e1]
        have h2 : ¬ ent.2 = k := fun z => h (decide_eq_true (by rw [z]))
        simp [pOwn, h2]
    rintro H3 ⟨ds, ⟨e, x, _⟩, lD⟩
    rw [kwKV_len, filter_range (pOwn k) kw] at e
    subst e
    have hf3 : H3 a = some (.frz od (.dK (kwKV kw))) := x a _ upd_same (by simpa using nDa.symm)
    refine ⟨hf3, ?_⟩
    have s5H : Same H (upd H3 a (.dK (kwKV kw))) := fun b o e => by
      by_cases hb : b = a
      · subst hb
        rw [upd_same, ← hN, e]
      · rw [upd_ne hb]
        exact x b o (by rw [upd_ne hb]; exact e) (by simpa using ne_of_none e hD0)
    have lD5 : LsAt K (upd H3 a (.dK (kwKV kw))) D (kw.filterMap (pOwn k)) := by
      obtain ⟨xs, e1, t1⟩ := lD
      refine ⟨xs, by rw [upd_ne nDa]; exact e1, t1.keep fun b ys h => ?_⟩
      rcases h with (h | ⟨o, h⟩) | h
      · refine .inl (.inl ?_)
        rw [upd_ne (fun z => by rw [z, hf3] at h; cases h)]
        exact h
      · refine .inl (.inr ⟨o, ?_⟩)
        rw [upd_ne (fun z => by rw [z, hf3] at h; cases h)]
        exact h
      · exact .inr h
    generalize hH5 : upd H3 a (.dK (kwKV kw)) = H5 at s5H lD5 ⊢
    refine ⟨_, rfl, p, l, 5, n + 1, rfl, hP.same s5H, by decide, by decide, fun way H6 r0 r1 hP6 bt6 => ?_⟩
    have x6 : Ext [p, a] H H6 := ((Ext.of s5H).trans (Ext.but bt6)).mono (by simp)
    have kn6 : KnAt H6 a kw := bt6 a _ (s5H a _ hN) nap
    have nDp := (hP.ne hD0).1
    have lD6 : LsAt K H6 D (kw.filterMap (pOwn k)) := lD5.ext (Ext.but bt6) (.pen (hP.same s5H) .nil) (by simpa using nDp)
    have shO : ∀ d ∈ kw.filterMap (pOwn k), ShB 0 d := fun d hd => by
      obtain ⟨e, he, q⟩ := List.mem_filterMap.mp hd
      unfold pOwn at q
      split at q
      · cases q
        exact .str (fresh_ok _ (kok.name e he))
      · cases q
    refine ⟨fun σ' H' => σ' = [some (.ref p), some kv, some (.str k), some (.ref a), some (.ref D), none, some (.int way), none] ∧ Ext [p, a] H H' ∧ PenAt H' p l (n + 1) ∧ KnAt H' a kw, ?_, ?_⟩
    · refine ⟨_, rfl, _, _, rfl, rfl, _, rfl, ite2 (fun h1 => ?_) (fun h1 => ite2 (fun z => Bool.noConfusion (show false = true from z)) (fun _ => ⟨rfl, x6, hP6, kn6⟩))⟩
      refine ⟨_, rfl, by show 0 ≤ sizeLine; decide, fun q nq => ⟨D, q, 0, _, rfl, rfl, lD6.same (Same.new nq), ls_new nq .nil, shO, by decide, _, rfl, ite2 (fun h2 => ?_) (fun h2 => ⟨rfl, x6.trans (.of (Same.new nq)), hP6.same (Same.new nq), Same.new nq _ _ kn6⟩)⟩⟩
      have h3 : kw.filterMap (pOwn k) ≠ [] := of_decide_eq_true h2
      refine ⟨_, rfl, _, rfl, p, l, .ref D, _, n, rfl, hP6.same (Same.new nq), (lD6.same (Same.new nq)).sq, h3, Nat.le_trans (own_lt _) (by decide), fun v d H8 hd tv hP8 bt8 => ?_⟩
      obtain ⟨ent, he, hq⟩ := List.mem_filterMap.mp hd
      have hk2 : ent.2 = k ∧ d = .str ent.1 := by
        unfold pOwn at hq
        split at hq
        · rename_i q2
          exact ⟨q2, (Option.some.inj hq).symm⟩
        · cases hq
      obtain ⟨rfl, rfl⟩ := hk2
      have x8 : Ext [p, a] H H8 := (x6.trans (.of (Same.new nq))).trans ((Ext.but bt8).mono (by simp))
      refine ⟨by show 2 ≤ sizeLine; decide, fun z nz => ?_⟩
      refine fin (.ref z) (.any ent.1) [] _ (tp_new nz (.cons (.str _) (.cons tv .nil))) ?_ (by rw [List.append_nil]; exact kok) (hP8.same (Same.new nz)) (x8.trans (.of (Same.new nz))) ?_ (fun e he => nomatch he)
      · rw [List.append_nil]
        exact Same.new nz _ _ (bt8 a _ (Same.new nq _ _ kn6) nap)
      · rw [List.append_nil]
        exact he
    rintro σ7 H7 ⟨rfl, x7, hP7, kn7⟩
    refine ⟨by show 5 ≤ sizeLine; decide, fun q nq => ⟨q, rfl, ⟨freshNames.map V.str, SqL.of upd_same⟩, fun D2 hD2 => ?_⟩⟩
    have nD2q : D2 ≠ q := fun e => by
      rw [e, upd_same] at hD2
      cases hD2
    have sq := Same.new (o := .lst (freshNames.map V.str)) nq
    have kn8 : KnAt (upd H7 q (.lst (freshNames.map V.str))) a kw := sq _ _ kn7
    have hD27 : H7 D2 = none := sq.free hD2
    have nD2a : D2 ≠ a := (ne_of_none kn7 hD27).symm
    refine lc_it (walk_list (xs := freshNames.map V.str)) (LcN K D2 (Flt (upd H7 q (.lst (freshNames.map V.str))) D2 (freshNames.map V.str).length (fun i => freshNames[i]?.bind (pFresh kw)))) Flt.start ?_ ?_ ?_
    · rintro i H3 hi ⟨ds, ⟨_, x, _⟩, _⟩
      exact SqL.of (x q _ upd_same (by simpa using nD2q.symm))
    · rintro i x H3 H4 hi pv ⟨rfl, e⟩
      have hf : H4 a = some (.dK (kwKV kw)) := by
        obtain ⟨ds, ⟨_, x, _⟩, _⟩ := pv
        exact x a _ kn8 (by simpa using nD2a.symm)
      rw [List.getElem?_map] at e
      obtain ⟨nm, e1, rfl⟩ := Option.map_eq_some_iff.mp e
      refine ⟨rfl, _, rfl, _, rfl, a, _, rfl, DGet.k (k := .inr nm) hf, _, rfl, ite2 (fun h => ?_) (fun h => ?_)⟩
      · refine ⟨_, rfl, Flt.yes pv hi (by show 5 < sizeLine; decide) (Same.refl _) (.str nm) ?_⟩
        rw [e1]
        rw [kwKV_val] at h
        have h2 : kw.lookup nm = none := by
          cases q2 : kw.lookup nm with
          | none => rfl
          | some y =>
            rw [q2] at h
            cases h
        simp [pFresh, h2]
      · refine Flt.no pv hi (Same.refl _) ?_
        rw [e1]
        rw [kwKV_val] at h
        have h2 : ¬ kw.lookup nm = none := fun z => h (by rw [z]; rfl)
        simp [pFresh, h2]
    rintro H9 ⟨ds, ⟨e, x, _⟩, lD2⟩
    rw [List.length_map, filter_range (pFresh kw) freshNames, fresh_map] at e
    subst e
    have xa9 : Ext [D2] H7 H9 := (Ext.of sq).trans x
    have x9 : Ext [p, a] H H9 := fun b o e hb => xa9 b o (x7 b o e hb) (by
      have z := x7 b o e hb
      simpa using ne_of_none z hD27)
    have hP9 : PenAt H9 p l (n + 1) := hP7.ext xa9 (by simpa using (hP7.ne hD27).1.symm) (by simpa using (hP7.ne hD27).2.symm)
    have kn9 : KnAt H9 a kw := xa9 a _ kn7 (by simpa using nD2a.symm)
    have frs : ∀ x ∈ freshNames.filter (fun x => (kw.lookup x).isNone), x ∈ freshNames := fun x hx => (List.mem_filter.mp hx).1
    have shF : ∀ d ∈ (freshNames.filter (fun x => (kw.lookup x).isNone)).map PyData.str, ShB 0 d := shStrs fun x hx => fresh_ok x (frs x hx)
    refine ⟨fun σ' H' => σ' = [some (.ref p), some kv, some (.str k), some (.ref a), some (.ref D), none, some (.int way), some (.ref D2)] ∧ Ext [p, a] H H' ∧ PenAt H' p l (n + 1) ∧ KnAt H' a kw, ?_, ?_⟩
    · refine ⟨_, rfl, _, _, rfl, rfl, _, rfl, ite2 (fun h1 => ?_) (fun h1 => ite2 (fun z => Bool.noConfusion (show false = true from z)) (fun _ => ⟨rfl, x9, hP9, kn9⟩))⟩
      refine ⟨_, rfl, by show 0 ≤ sizeLine; decide, fun q2 nq2 => ⟨D2, q2, 0, _, rfl, rfl, lD2.same (Same.new nq2), ls_new nq2 .nil, shF, by decide, _, rfl, ite2 (fun h2 => ?_) (fun h2 => ⟨rfl, x9.trans (.of (Same.new nq2)), hP9.same (Same.new nq2), Same.new nq2 _ _ kn9⟩)⟩⟩
      have h3 : (freshNames.filter (fun x => (kw.lookup x).isNone)).map PyData.str ≠ [] := of_decide_eq_true h2
      cases hfr : freshNames.filter (fun x => (kw.lookup x).isNone) with
      | nil =>
        rw [hfr] at h3
        exact absurd rfl h3
      | cons fx fr =>
        rw [hfr] at lD2
        have hfx : fx ∈ freshNames ∧ kw.lookup fx = none := by
          have z : fx ∈ freshNames.filter (fun x => (kw.lookup x).isNone) := by rw [hfr]; exact List.mem_cons_self
          obtain ⟨z1, z2⟩ := List.mem_filter.mp z
          exact ⟨z1, by simpa using z2⟩
        have kn10 := Same.new (o := .lst []) nq2 _ _ kn9
        have l10 := lD2.same (Same.new (o := .lst []) nq2)
        refine ⟨_, rfl, _, rfl, _, rfl, _, 0, .str fx, l10.sq, rfl, atI0, fun v tv => ?_⟩
        have ev := tv.str_inv
        subst ev
        refine ⟨a, _, rfl, DPut.k (k := .inr fx) (v := .str k) kn10 (by rw [kwKV_len]; have := kok.len; omega), ?_⟩
        have e11 : Ext [a] (upd H9 q2 (.lst [])) (upd (upd H9 q2 (.lst [])) a (.dK (putK (kwKV kw) (.inr fx) (.str k)))) := Ext.upd (by simp)
        have n11 : NoTup (upd H9 q2 (.lst [])) [a] := .dict kn10 .nil
        refine ⟨_, rfl, _, 0, .str fx, (l10.ext e11 n11 (by simpa using nD2a)).sq, rfl, atI0, fun v tv => ?_⟩
        have ev := tv.str_inv
        subst ev
        refine ⟨by show 2 ≤ sizeLine; decide, fun z nz => ?_⟩
        have e12 := e11.trans (.of (Same.new (o := .tup [.str "any", .str fx]) nz))
        refine fin (.ref z) (.any fx) [(fx, k)] _ (tp_new nz (.cons (.str _) (.cons (.str _) .nil))) ?_ ?_ ((hP9.same (Same.new (o := .lst []) nq2)).mono (by omega) |>.ext e12 (by simpa using nap.symm) (by simpa using nal.symm)) (x9.trans ((Ext.of (Same.new (o := .lst []) nq2)).trans (e12.mono (by simp)))) (List.mem_append_right _ (List.mem_cons_self)) (fun e he => by rw [List.mem_singleton.mp he])
        · refine Same.new nz _ _ ?_
          rw [upd_same, putK_fresh hfx.2]
        · exact kw_snoc kok hfx.1 hfx.2 hk
    rintro σ8 H8 ⟨rfl, x8, hP8, kn8⟩
    have nt8 : NoTup H [p, a] := .pen hP (.dict hN .nil)
    have hK8 : Pk K H8 kv (kindsDs ks) := hK.ext x8 nt8
    refine ⟨_, rfl, _, rfl, kv, ks.map (fun k => (k.1, strsD k.2)), rfl, by rw [List.map_map]; exact hK8, by rw [List.map_map]; exact ok.nd, fun q H11 nq s11 dc => ?_⟩
    obtain ⟨its, hi1, hi2⟩ := kds_at hk
    obtain ⟨v, g1, t1⟩ := dc.get (x := k) (d := strsD its) (by rw [List.map_map]; exact ok.nd) (List.mem_map.mpr ⟨_, hi1, rfl⟩)
    refine ⟨_, rfl, q, v, rfl, g1, p, l, v, its.map .str, n, rfl, hP8.same s11, .inr t1, ?_, ?_, fun v2 d H12 hd tv hP12 bt12 => ?_⟩
    · intro z
      exact (ok.some _ hi1).1 (List.map_eq_nil_iff.mp z)
    · rw [List.length_map]
      exact Nat.le_trans (ok.some _ hi1).2 (by decide)
    obtain ⟨i, hi, rfl⟩ := mem_map_str hd
    refine ⟨by show 2 ≤ sizeLine; decide, fun z nz => ?_⟩
    refine fin (.ref z) (.item i) [] _ (tp_new nz (.cons (.str _) (.cons tv .nil))) ?_ (by rw [List.append_nil]; exact kok) (hP12.same (Same.new nz)) (((x8.trans (.of s11)).trans ((Ext.but bt12).mono (by simp))).trans (.of (Same.new nz))) ⟨its, hi1, hi⟩ (fun e he => nomatch he)
    rw [List.append_nil]
    exact Same.new nz _ _ (bt12 a _ (s11 _ _ kn8) nap)
end

end Og

set_option Elab.async false
set_option linter.all false
set_option maxRecDepth 100000
set_option maxHeartbeats 8000000
namespace Og
open PySem L2
def spAtom (K : PySem.W.Frag) : Sp := fun vs H Q _ => ∃ (p l a : Addr) (kv tv : V) (ks tl : Kds) (kw : Kw) (n : Nat), vs = [.ref p, kv, tv, .ref a] ∧ PenAt H p l (n + 5) ∧ Pk K H kv (kindsDs ks) ∧ Tp K H tv (kindsD tl) ∧ KnAt H a kw ∧
  KdsOk ks ∧ TlsOk ks tl ∧ KwOk ks kw ∧
  ∀ z t more H', Tp K H' z t.d → KnAt H' a (kw ++ more) → KwOk ks (kw ++ more) → PenAt H' p l n → Ext [p, a] H H' → AtmOk ks tl (kw ++ more) t → (∀ e ∈ more, Tm.any e.1 ∈ t.terms) → Q z H'
theorem if_t {A B : Prop} (h : A) : if (true : Bool) = true then A else B := by
  rw [if_pos rfl]
  exact h
theorem kn_ne {H : Hp} {p l a : Addr} {n : Nat} {kw : Kw} (hP : PenAt H p l n) (hN : KnAt H a kw) : a ≠ p ∧ a ≠ l := by
  constructor
  · intro z
    subst z
    obtain ⟨cells, t, d, c, f, h1, _⟩ := hP.ex
    exact kw_not_pen (hN.symm.trans h1)
  · obtain ⟨xs, e⟩ := hP.list
    exact ne_of hN e (by intro q; cases q)
theorem Ext.at {H H' : Hp} {S : List Addr} {b : Addr} {o : HO} (s : Ext S H H') (h : H b = some o) (hb : b ∉ S) : H' b = some o := s b o h hb
/-- what is done to a thing that is new ahead of H leaves H -/
theorem Ext.drop {H H' H'' : Hp} {S : List Addr} {D : Addr} (s : Ext S H H') (t : Ext [D] H' H'') (hD : H D = none) : Ext S H H'' := fun b o e hb => t b o (s b o e hb) (by simpa using ne_of_none e hD)
theorem Pk.tp2 {K : PySem.W.Frag} {H : Hp} {v : V} {ds : List PyData} {d : PyData} (h : Tp K H v (.tuple ds)) : ∃ a xs, v = .ref a ∧ SqT K H a xs ∧ TpAll K H xs ds := h.tup_inv
theorem TpAll.two {K : PySem.W.Frag} {H : Hp} {xs : List V} {d e : PyData} (h : TpAll K H xs [d, e]) : ∃ x y, xs = [x, y] ∧ Tp K H x d ∧ Tp K H y e := by
  cases h with
  | cons h1 h2 =>
    cases h2 with
    | cons h2 h3 =>
      cases h3
      exact ⟨_, _, rfl, h1, h2⟩
theorem TpAll.three {K : PySem.W.Frag} {H : Hp} {xs : List V} {d e f : PyData} (h : TpAll K H xs [d, e, f]) : ∃ x y z, xs = [x, y, z] ∧ Tp K H x d ∧ Tp K H y e ∧ Tp K H z f := by
  cases h with
  | cons h1 h2 =>
    obtain ⟨y, z, rfl, a, b⟩ := h2.two
    exact ⟨_, _, _, rfl, h1, a, b⟩
theorem Tp.pair {K : PySem.W.Frag} {H : Hp} {v : V} {d e : PyData} (h : Tp K H v (.tuple [d, e])) : ∃ a x y, v = .ref a ∧ SqT K H a [x, y] ∧ Tp K H x d ∧ Tp K H y e := by
  obtain ⟨a, xs, rfl, sq, t⟩ := h.tup_inv
  obtain ⟨x, y, rfl, h1, h2⟩ := t.two
  exact ⟨a, x, y, rfl, sq, h1, h2⟩
theorem mem_kinds {ks : Kds} {d : PyData} (h : d ∈ kindsDs ks) : ∃ k ∈ ks, d = .tuple [.str k.1, strsD k.2] := by
  obtain ⟨k, hk, e⟩ := List.mem_map.mp h
  exact ⟨k, hk, e.symm⟩
section
variable {P : Program} {w : World} {K : PySem.W.Frag} {mg : Str → Option Value} {base : Heap}
theorem scBookAtom : FnScope ["pen", "kinds", "tells", "known", "name", "places", "kind"] ["pen", "kinds", "tells", "known"] (defScope sBookAtom) := ⟨rfl, rfl, rfl, by decide +kernel, rfl, by decide +kernel, by decide +kernel⟩
theorem ok_BookAtom (D : DefAt K mg "_law_book_atom" sBookAtom) (B : Blt mg) (cPick : Callee P w K mg base CX0 "_law_pick" 2 ["pen", "some"] (spPick K)) (cTerm : Callee P w K mg base CX0 "_law_book_term" 3 ["pen", "kinds", "kind", "known"] (spTerm K)) : Callee P w K mg base CX0 "_law_book_atom" 4 ["pen", "kinds", "tells", "known"] (spAtom K) := by
  refine callee_of D scBookAtom (fun _ _ _ _ _ _ us hl => match us, hl with | [_, _, _, _], _ => rfl) (fun vs H Q E h => ?_) (fun f cdv A outer s H vs Q E hG hr h => ?_)
  · obtain ⟨p, l, a, kv, tv, ks, tl, kw, n, rfl, _⟩ := h
    rfl
  · obtain ⟨p, l, a, kv, tv, ks, tl, kw, n, rfl, hP, hK, hT, hN, ok, tok, kok, fin⟩ := h
    have hu : (A.deeper (PyProof.Rows.envOfC "_law_book_atom" (defScope sBookAtom) s.heap.objs.size f cdv)).units + 64 < cLine := hr.units
    have hu1 : (A.deeper (PyProof.Rows.envOfC "_law_book_atom" (defScope sBookAtom) s.heap.objs.size f cdv)).units + 1 < cLine := by omega
    have hu2 : (A.deeper (PyProof.Rows.envOfC "_law_book_atom" (defScope sBookAtom) s.heap.objs.size f cdv)).units < cLine := by omega
    refine ⟨_, (pss_cons (ps_asg (pe_fn cPick hG (hr.mono (by decide)) pass0 (pa_cons (pv 0) (pa_cons (pv 2) pa_nil))) (pg_tup rfl (pgs_cons (pg_name (i := 4) scBookAtom.nd rfl (Or.inl rfl)) (pgs_cons (pg_name (i := 5) scBookAtom.nd rfl (Or.inl rfl)) pgs_nil))))
      (pss_one (ps_ret (pe_tup (pa_cons (pv 4) (pa_cons (pe_callTy call_tupS (by rfl) B.tuple (by decide +kernel) (pa_cons (pe_lc (own := [("kind", 6)]) (g := (gName 6)) (tt := tYes) (by rfl) scBookAtom.nd (pi_tup (pv 5)) (blkOk_by (own := [("kind", 6)]) (N := ["pen", "kinds", "tells", "known", "name", "places", "kind"]) (sc := defScope sBookAtom) (by decide +kernel)) (fun _ _ _ _ _ => (by exact pg_name (i := 6) scBookAtom.nd rfl (Or.inl rfl))) (fun _ _ _ _ _ => pts_nil) (fun _ _ _ _ _ => by exact (pe_fn cTerm hG (hr.mono (by decide)) pass0 (pa_cons (pv 0) (pa_cons (pv 1) (pa_cons (pv 6) (pa_cons (pv 3) pa_nil))))))) pa_nil)) pa_nil)))))), ?_⟩
    obtain ⟨nap, nal⟩ := kn_ne hP hN
    refine ⟨_, rfl, _, rfl, p, l, tv, kindsDs tl, n + 4, rfl, hP, .inr hT, ?_, ?_, fun x d H1 hd tx hP1 bt1 => ?_⟩
    · intro z
      exact tok.ne (List.map_eq_nil_iff.mp z)
    · rw [kindsDs, List.length_map]
      exact Nat.le_trans tok.len (by decide)
    obtain ⟨⟨nm, ps⟩, hm, rfl⟩ := mem_kinds hd
    obtain ⟨b, y1, y2, rfl, sq, t1, t2⟩ := tx.pair
    have e1 := t1.str_inv
    subst e1
    have two : ps.length ≤ 2 := tok.two _ hm
    refine ⟨b, _, rfl, sq, rfl, _, _, rfl, _, _, rfl, rfl, ?_⟩
    obtain ⟨b2, xs2, rfl, sq2, t3⟩ := t2.tup_inv
    have kn1 : KnAt H1 a kw := bt1 a _ hN nap
    have x1 : Ext [p, a] H H1 := (Ext.but bt1).mono (by simp)
    have nt : NoTup H [p, a] := .pen hP (.dict hN .nil)
    have nt1 : NoTup H1 [p, a] := .pen hP1 (.dict kn1 .nil)
    refine ⟨_, rfl, _, rfl, b2, rfl, ⟨xs2, sq2⟩, fun D hD => ?_⟩
    have nD := hP1.ne hD
    have nDa : D ≠ a := (ne_of_none kn1 hD).symm
    have lx : xs2.length = ps.length := by
      rw [t3.length, List.length_map]
    refine lc_it (walk_tup (xs := xs2)) (LcN K D fun i ds H' => ∃ ts more, ds = ts.map Tm.d ∧ i ≤ ps.length ∧ TmsOk ks (kw ++ more) (ps.take i) ts ∧ KnAt H' a (kw ++ more) ∧ KwOk ks (kw ++ more) ∧ PenAt H' p l (n + 2 * (ps.length - i)) ∧ Ext [p, a] H1 H' ∧ ∀ e ∈ more, Tm.any e.1 ∈ ts) ?_ ?_ ?_ ?_
    · have sD := Same.new (o := .lst []) hD
      refine lc_start ⟨[], [], rfl, Nat.zero_le _, True.intro, ?_, ?_, (hP1.same sD).mono (by omega), .of sD, fun e he => nomatch he⟩
      · rw [List.append_nil]
        exact sD _ _ kn1
      · rw [List.append_nil]
        exact kok
    · rintro i H3 hi ⟨ds, ⟨ts, more, rfl, hip, tms, kn, kk, hP3, x3, mr⟩, _⟩
      exact Tk.ext x3 nt1 _ _ sq2
    · rintro i x H3 H4 hi ⟨ds, ⟨ts, more, rfl, hip, tms, kn, kk, hP3, x3, mr⟩, lD⟩ ⟨rfl, e⟩
      have hi2 : i < ps.length := by omega
      obtain ⟨d, e2, tx⟩ := t3.getV e
      rw [List.getElem?_map, List.getElem?_eq_getElem hi2] at e2
      cases e2
      have ex := tx.str_inv
      subst ex
      have hkm : ps[i] ∈ ks.map (·.1) := tok.kind _ hm _ (List.getElem_mem hi2)
      refine ⟨rfl, ?_⟩
      unfold tYes
      refine if_t ?_
      refine ⟨_, rfl, _, rfl, _, rfl, _, rfl, p, l, a, kv, ks, ps[i], kw ++ more, n + 2 * (ps.length - (i + 1)), rfl, hP3.mono (by omega), (hK.ext x1 nt).ext x3 nt1, kn, ok, kk, hkm, fun z t more2 H5 tz kn5 kk5 hP5 x5 tm mr5 => ?_⟩
      have nt3 : NoTup H4 [p, a] := .pen hP3 (.dict kn .nil)
      have lD5 := lD.ext x5 nt3 (by simp [nD.1, nDa])
      refine lc_put tz lD5 (fun H6 x6 n6 => ?_) ?_
      · rw [List.append_assoc] at kn5 kk5 tm
        refine ⟨ts ++ [t], more ++ more2, by rw [List.map_append]; rfl, hi2, ?_, x6 a _ kn5 (by simpa using nDa.symm), kk5, hP5.ext x6 (by simpa using nD.1.symm) (by simpa using nD.2.symm), (x3.trans x5).drop x6 hD, fun e he => ?_⟩
        · rw [List.take_add_one, List.getElem?_eq_getElem hi2]
          refine TmsOk.snoc tm ?_
          have z := tms.mono more2
          rw [List.append_assoc] at z
          exact z
        · rcases List.mem_append.mp he with he | he
          · exact List.mem_append_left _ (mr e he)
          · rw [mr5 e he]
            exact List.mem_append_right _ List.mem_cons_self
      · have z := tms.length
        rw [List.length_map, z, List.length_take]
        have : (2 : Nat) < sizeLine := by decide
        omega
    rintro H3 ⟨ds, ⟨ts, more, rfl, hip, tms, kn, kk, hP3, x3, mr⟩, lD⟩
    rw [lx, List.take_of_length_le (Nat.le_refl _)] at tms
    refine ⟨_, _, rfl, lD.sq, fun z H5 s5 tz => ?_⟩
    refine ⟨by show 2 ≤ sizeLine; decide, fun q nq => ?_⟩
    have s6 := s5.trans (Same.new (o := .tup [.str nm, z]) nq)
    exact fin (.ref q) ⟨nm, ts⟩ more _ (tp_new nq (.cons (.str _) (.cons tz .nil))) (s6 _ _ kn) kk ((hP3.same s6).mono (by omega)) ((x1.trans x3).trans (.of s6)) ⟨ps, hm, tms⟩ mr
end

end Og

set_option Elab.async false
set_option linter.all false
set_option maxRecDepth 100000
set_option maxHeartbeats 8000000
namespace Og
open PySem L2
theorem NoTup.new {H : Hp} {D : Addr} (h : H D = none) : NoTup H [D] := fun s hs xs r => by
  rw [List.mem_singleton.mp hs] at r
  rcases r with r | ⟨o, r⟩ <;> rw [h] at r <;> cases r
theorem fmap_some {α β : Type} {f : α → β} {xs : List α} : xs.filterMap (fun x => some (f x)) = xs.map f := by
  induction xs with
  | nil => rfl
  | cons x r ih => rw [List.filterMap_cons, ih]; rfl
def pAny (kw : Kw) (k : Str) (x : Str) : Option PyData := if kw.lookup x = some k then some (.tuple [.str "any", .str x]) else none
theorem anys_map {kw : Kw} {k : Str} {xs : List Str} : xs.filterMap (pAny kw k) = (xs.filter (fun x => decide (kw.lookup x = some k))).map fun x => (Tm.any x).d := by
  induction xs with
  | nil => rfl
  | cons x r ih =>
    rw [List.filterMap_cons, List.filter_cons, ih]
    by_cases e : kw.lookup x = some k
    · simp [pAny, e, Tm.d]
    · simp [pAny, e]
theorem kwKV_keys {kw : Kw} : (kwKV kw).map (·.1) = (kw.map (·.1)).map (Sum.inr : Str → Key) := by
  rw [kwKV, List.map_map, List.map_map]
  rfl
def spSides (K : PySem.W.Frag) : Sp := fun vs H Q _ => ∃ (p l a : Addr) (kv : V) (ks : Kds) (kw : Kw) (n : Nat), vs = [.ref p, kv, .ref a] ∧ PenAt H p l (n + 4) ∧ Pk K H kv (kindsDs ks) ∧ KnAt H a kw ∧
  KdsOk ks ∧ KwOk ks kw ∧ kw ≠ [] ∧
  ∀ z t H', Tp K H' z (Pt.d t) → PenAt H' p l n → But p H H' → (∀ tl, PtOk ks tl kw t) → Q z H'
section
variable {P : Program} {w : World} {K : PySem.W.Frag} {mg : Str → Option Value} {base : Heap}
theorem scBookSides : FnScope ["pen", "kinds", "known", "kind", "some", "name", "item"] ["pen", "kinds", "known"] (defScope sBookSides) := ⟨rfl, rfl, rfl, by decide +kernel, rfl, by decide +kernel, by decide +kernel⟩
theorem ok_BookSides (D : DefAt K mg "_law_book_sides" sBookSides) (B : Blt mg) (cPick : Callee P w K mg base CX0 "_law_pick" 2 ["pen", "some"] (spPick K)) : Callee P w K mg base CX0 "_law_book_sides" 4 ["pen", "kinds", "known"] (spSides K) := by
  refine callee_of D scBookSides (fun _ _ _ _ _ _ us hl => match us, hl with | [_, _, _], _ => rfl) (fun vs H Q E h => ?_) (fun f cdv A outer s H vs Q E hG hr h => ?_)
  · obtain ⟨p, l, a, kv, ks, kw, n, rfl, _⟩ := h
    rfl
  · obtain ⟨p, l, a, kv, ks, kw, n, rfl, hP, hK, hN, ok, kok, hne, fin⟩ := h
    have hu : (A.deeper (PyProof.Rows.envOfC "_law_book_sides" (defScope sBookSides) s.heap.objs.size f cdv)).units + 64 < cLine := hr.units
    have hu1 : (A.deeper (PyProof.Rows.envOfC "_law_book_sides" (defScope sBookSides) s.heap.objs.size f cdv)).units + 1 < cLine := by omega
    have hu2 : (A.deeper (PyProof.Rows.envOfC "_law_book_sides" (defScope sBookSides) s.heap.objs.size f cdv)).units < cLine := by omega
    refine ⟨_, (pss_cons (ps_set (i := 3) scBookSides.nd rfl (Or.inr rfl) (pe_dget hu1 (pv 2) (pe_fn cPick hG (hr.mono (by decide)) pass0 (pa_cons (pv 0) (pa_cons (pe_callB (call_sortedT rfl) (by rfl) B.sorted (by decide +kernel) (pa_cons (pv 2) pa_nil)) pa_nil))) (fun _ _ => rfl)))
      (pss_cons (ps_set (i := 4) scBookSides.nd rfl (Or.inl rfl) (pe_op op_catL (pe_lc (own := [("name", 5)]) (g := (gName 5)) (by rfl) scBookSides.nd (pi_list (pe_callB (call_sortedT rfl) (by rfl) B.sorted (by decide +kernel) (pa_cons (pv 2) pa_nil))) (blkOk_by (own := [("name", 5)]) (N := ["pen", "kinds", "known", "kind", "some", "name", "item"]) (sc := defScope sBookSides) (by decide +kernel)) (fun _ _ _ _ _ => (by exact pg_name (i := 5) scBookSides.nd rfl (Or.inl rfl))) (fun _ _ _ _ _ => by exact pts_one (pt_cmpR op_eq (pe_dget hu1 (pv 2) (pv 5) (fun _ _ => rfl)) (pv 3) (nomark _))) (fun _ _ _ _ _ => by exact (pe_tup (pa_cons pe_str (pa_cons (pv 5) pa_nil))))) (pe_lc (own := [("item", 6)]) (g := (gName 6)) (tt := tYes) (by rfl) scBookSides.nd (pi_tup (pe_dget hu1 (pe_callTy (call_dictT rfl) (by rfl) B.dict (by decide +kernel) (pa_cons (pv 1) pa_nil)) (pv 3) (fun _ _ => rfl))) (blkOk_by (own := [("item", 6)]) (N := ["pen", "kinds", "known", "kind", "some", "name", "item"]) (sc := defScope sBookSides) (by decide +kernel)) (fun _ _ _ _ _ => (by exact pg_name (i := 6) scBookSides.nd rfl (Or.inl rfl))) (fun _ _ _ _ _ => pts_nil) (fun _ _ _ _ _ => by exact (pe_tup (pa_cons pe_str (pa_cons (pv 6) pa_nil)))))))
      (pss_one (ps_ret (pe_tup (pa_cons (pe_fn cPick hG (hr.mono (by decide)) pass0 (pa_cons (pv 0) (pa_cons (pe_lst (pa_cons pe_str (pa_cons pe_str (pa_cons pe_str pa_nil)))) pa_nil))) (pa_cons (pe_fn cPick hG (hr.mono (by decide)) pass0 (pa_cons (pv 0) (pa_cons (pv 4) pa_nil))) (pa_cons (pe_fn cPick hG (hr.mono (by decide)) pass0 (pa_cons (pv 0) (pa_cons (pv 4) pa_nil))) pa_nil)))))))), ?_⟩
    obtain ⟨nap, nal⟩ := kn_ne hP hN
    have s5 : 5 < sizeLine := by decide
    have s64 : 8 ≤ sizeLine := by decide
    refine ⟨_, rfl, _, rfl, _, rfl, a, kw.map (·.1), rfl, ⟨kwKV kw, hN, kwKV_keys⟩, by rw [List.length_map]; have := kok.len; omega, fun ys q H1 py _ nq s1 lq => ?_⟩
    have lys : ys.length = kw.length := by rw [py.length_eq, List.length_map]
    refine ⟨p, l, .ref q, ys.map .str, n + 3, rfl, hP.same s1, lq.sq, ?_, ?_, fun x d H2 hd tx hP2 bt2 => ?_⟩
    · intro z
      have z2 := List.map_eq_nil_iff.mp z
      rw [z2] at lys
      exact hne (List.eq_nil_of_length_eq_zero lys.symm)
    · rw [List.length_map, lys]
      exact Nat.le_trans kok.len (by decide)
    obtain ⟨y, hy, rfl⟩ := mem_map_str hd
    have ex := tx.str_inv
    subst ex
    obtain ⟨ent, he, rfl⟩ := List.mem_map.mp (py.mem_iff.mp hy)
    have lk : kw.lookup ent.1 = some ent.2 := mem_lookup kok.nd he
    have kn2 : KnAt H2 a kw := bt2 a _ (s1 a _ hN) nap
    have g2 : DGet H2 a (.str ent.1) (some (.str ent.2)) := by
      have z := DGet.k (k := .inr ent.1) kn2
      rw [kwKV_val, lk] at z
      exact z
    have b2 : But p H H2 := (But.of s1).trans bt2
    have hk : ent.2 ∈ ks.map (·.1) := kok.kind _ he
    generalize hkk : ent.2 = k at lk g2 hk
    refine ⟨a, .str k, rfl, g2, ?_⟩
    refine ⟨_, rfl, a, kw.map (·.1), rfl, ⟨kwKV kw, kn2, kwKV_keys⟩, by rw [List.length_map]; have := kok.len; omega, fun ys2 q2 H3 py2 _ nq2 s3 lq2 => ?_⟩
    have lys2 : ys2.length = kw.length := by rw [py2.length_eq, List.length_map]
    obtain ⟨xs2, eq2, tq2⟩ := lq2
    have eqs := TpAll.strs tq2
    subst eqs
    refine ⟨q2, rfl, ⟨_, SqL.of eq2⟩, fun D hD => ?_⟩
    have kn3 : KnAt H3 a kw := s3 _ _ kn2
    have nDa : D ≠ a := (ne_of_none kn3 hD).symm
    have nDq : D ≠ q2 := (ne_of_none eq2 hD).symm
    have l5 := kok.len
    refine lc_it (walk_list (xs := ys2.map V.str)) (LcN K D (Flt H3 D (ys2.map V.str).length (fun i => ys2[i]?.bind (pAny kw k)))) Flt.start ?_ ?_ ?_
    · rintro i H4 hi ⟨ds, ⟨_, x, _⟩, _⟩
      exact SqL.of (x q2 _ eq2 (by simpa using nDq.symm))
    · rintro i x H4 H5 hi pv ⟨rfl, e⟩
      have hf : KnAt H5 a kw := by
        obtain ⟨ds, ⟨_, x, _⟩, _⟩ := pv
        exact x a _ kn3 (by simpa using nDa.symm)
      rw [List.getElem?_map] at e
      obtain ⟨nm, e1, rfl⟩ := Option.map_eq_some_iff.mp e
      obtain ⟨en, hen, rfl⟩ := List.mem_map.mp (py2.mem_iff.mp (List.mem_of_getElem? e1))
      have lk2 : kw.lookup en.1 = some en.2 := mem_lookup kok.nd hen
      have g5 : DGet H5 a (.str en.1) (some (.str en.2)) := by
        have z := DGet.k (k := .inr en.1) hf
        rw [kwKV_val, lk2] at z
        exact z
      refine ⟨rfl, _, rfl, _, rfl, a, _, rfl, g5, _, rfl, rfl, _, rfl, ite2 (fun h => ?_) (fun h => ?_)⟩
      · have h2 : en.2 = k := by
          have z := of_decide_eq_true h
          injection z
        refine ⟨_, rfl, by show 2 ≤ sizeLine; omega, fun z nz => Flt.yes pv hi (by rw [List.length_map, lys2]; omega) (Same.new nz) (tp_new nz (.cons (.str _) (.cons (.str _) .nil))) ?_⟩
        rw [e1]
        simp [pAny, lk2, h2]
      · refine Flt.no pv hi (Same.refl _) ?_
        rw [e1]
        have h2 : ¬ en.2 = k := fun z => h (decide_eq_true (by rw [z]))
        simp [pAny, lk2, h2]
    rintro H4 ⟨ds, ⟨e, x4, _⟩, lD⟩
    rw [List.length_map, filter_range (pAny kw k) ys2, anys_map] at e
    subst e
    have b4 : But p H H4 := fun b o e hb => x4 b o (s3 _ _ (b2 b o e hb)) (by
      have z := s3 _ _ (b2 b o e hb)
      simpa using ne_of_none z hD)
    have hP3 := hP2.same s3
    have hP4 : PenAt H4 p l (n + 3) := hP3.ext x4 (by simpa using (hP3.ne hD).1.symm) (by simpa using (hP3.ne hD).2.symm)
    have hK4 : Pk K H4 kv (kindsDs ks) := hK.but hP b4
    refine ⟨_, rfl, kv, ks.map (fun k => (k.1, strsD k.2)), rfl, by rw [List.map_map]; exact hK4, by rw [List.map_map]; exact ok.nd, fun q5 H5 nq5 s5 dc => ?_⟩
    obtain ⟨its, hi1, _⟩ := kds_at hk
    obtain ⟨v, g6, t6⟩ := dc.get (x := k) (d := strsD its) (by rw [List.map_map]; exact ok.nd) (List.mem_map.mpr ⟨_, hi1, rfl⟩)
    refine ⟨_, rfl, q5, v, rfl, g6, ?_⟩
    obtain ⟨b6, xs6, rfl, sq6, t7⟩ := t6.tup_inv
    have lits : its.length ≤ 3 := (ok.some _ hi1).2
    refine ⟨b6, rfl, ⟨xs6, sq6⟩, fun D2 hD2 => ?_⟩
    have e6 := TpAll.strs t7
    subst e6
    refine lc_it (walk_tup (xs := its.map V.str)) (LcN K D2 (Flt H5 D2 (its.map V.str).length (fun i => its[i]?.bind fun x => some (Tm.item x).d))) Flt.start ?_ ?_ ?_
    · rintro i H6 hi ⟨ds, ⟨_, x, _⟩, l6⟩
      exact Tk.ext x (.new hD2) _ _ sq6
    · rintro i x H6 H7 hi pv ⟨rfl, e⟩
      rw [List.getElem?_map] at e
      obtain ⟨nm, e1, rfl⟩ := Option.map_eq_some_iff.mp e
      refine ⟨rfl, ?_⟩
      unfold tYes
      refine if_t ?_
      refine ⟨_, rfl, by show 2 ≤ sizeLine; omega, fun z nz => Flt.yes pv hi (by rw [List.length_map]; omega) (Same.new nz) (tp_new nz (.cons (.str _) (.cons (.str _) .nil))) ?_⟩
      rw [e1]
      rfl
    rintro H6 ⟨ds, ⟨e, x6, _⟩, lD2⟩
    rw [List.length_map, filter_range (fun x => some (Tm.item x).d) its, fmap_some] at e
    subst e
    have lD6 := (lD.same s5).ext x6 (.new hD2) (by
      obtain ⟨zs, z, _⟩ := lD.same s5
      simpa using ne_of_none z hD2)
    generalize hds : (ys2.filter fun x => decide (kw.lookup x = some k)).map (fun x => (Tm.any x).d) = ds at lD6
    have lds : ds.length ≤ 5 := by
      rw [← hds, List.length_map]
      exact Nat.le_trans (List.length_filter_le ..) (by omega)
    have b6 : But p H H6 := fun b o e hb => x6 b o (s5 _ _ (b4 b o e hb)) (by
      have z := s5 _ _ (b4 b o e hb)
      simpa using ne_of_none z hD2)
    have hP5 := hP4.same s5
    have hP6 : PenAt H6 p l (n + 3) := hP5.ext x6 (by simpa using (hP5.ne hD2).1.symm) (by simpa using (hP5.ne hD2).2.symm)
    refine ⟨D, D2, _, _, rfl, rfl, lD6, lD2, by rw [List.length_map]; omega, fun q7 H7 nq7 s7 l7 => ?_⟩
    have all : ∀ d ∈ ds ++ its.map (fun x => (Tm.item x).d), ∃ t : Tm, d = t.d ∧ TmOk ks kw k t := by
      intro d hd
      rcases List.mem_append.mp hd with hd | hd
      · rw [← hds] at hd
        obtain ⟨x, hx, rfl⟩ := List.mem_map.mp hd
        have z := of_decide_eq_true (List.mem_filter.mp hx).2
        exact ⟨.any x, rfl, lookup_mem z⟩
      · obtain ⟨x, hx, rfl⟩ := List.mem_map.mp hd
        exact ⟨.item x, rfl, its, hi1, hx⟩
    have ne7 : ds ++ its.map (fun x => (Tm.item x).d) ≠ [] := by
      intro z
      exact (ok.some _ hi1).1 (List.map_eq_nil_iff.mp (List.append_eq_nil_iff.mp z).2)
    have len7 : (ds ++ its.map (fun x => (Tm.item x).d)).length ≤ 8 := by
      rw [List.length_append, List.length_map]
      omega
    refine ⟨_, rfl, by show 3 ≤ sizeLine; omega, fun q8 nq8 => ?_⟩
    have s8 := Same.new (o := .lst [V.str "same", V.str "other", V.str "other"]) nq8
    have hP8 := (hP6.same s7).same s8
    have l8 := l7.same s8
    refine ⟨p, l, .ref q8, [PyData.str "same", .str "other", .str "other"], n + 2, rfl, hP8, (LsAt.sq ⟨_, upd_same, .cons (.str _) (.cons (.str _) (.cons (.str _) .nil))⟩), (fun z => nomatch z), (by decide), fun v1 d1 H9 hd1 t1 hP9 bt9 => ?_⟩
    have sq9 := l8.sq.but hP8 bt9
    refine ⟨_, rfl, _, rfl, p, l, .ref q7, _, n + 1, rfl, hP9, sq9, ne7, by omega, fun v2 d2 H10 hd2 t2 hP10 bt10 => ?_⟩
    refine ⟨_, rfl, _, rfl, p, l, .ref q7, _, n, rfl, hP10, sq9.but hP9 bt10, ne7, by omega, fun v3 d3 H11 hd3 t3 hP11 bt11 => ?_⟩
    obtain ⟨u2, rfl, m2⟩ := all _ hd2
    obtain ⟨u3, rfl, m3⟩ := all _ hd3
    refine ⟨by show 3 ≤ sizeLine; omega, fun z nz => ?_⟩
    have b11 : But p H H11 := (((b6.trans (But.of s7)).trans (But.of s8)).trans (bt9.trans bt10)).trans bt11
    have r1 : Tp K H11 v1 d1 := (t1.keep (.but bt10 hP9)).keep (.but bt11 hP10)
    have r2 : Tp K H11 v2 u2.d := t2.keep (.but bt11 hP10)
    have sz := Same.new (o := .tup [v1, v2, v3]) nz
    have hd : d1 = .str "same" ∨ d1 = .str "other" := by
      rcases List.mem_cons.mp hd1 with h | h
      · exact .inl h
      · rcases List.mem_cons.mp h with h | h
        · exact .inr h
        · rcases List.mem_cons.mp h with h | h
          · exact .inr h
          · cases h
    rcases hd with rfl | rfl
    · exact fin (.ref z) (.same u2 u3) _ (tp_new nz (.cons r1 (.cons r2 (.cons t3 .nil)))) (hP11.same sz) (b11.trans (But.of sz)) (fun tl => ⟨k, m2, m3⟩)
    · exact fin (.ref z) (.other u2 u3) _ (tp_new nz (.cons r1 (.cons r2 (.cons t3 .nil)))) (hP11.same sz) (b11.trans (But.of sz)) (fun tl => ⟨k, m2, m3⟩)
end

end Og

set_option Elab.async false
set_option linter.all false
set_option maxRecDepth 100000
set_option maxHeartbeats 8000000
namespace Og
open PySem L2
def spForm (K : PySem.W.Frag) : Sp := fun vs H Q _ => ∃ (p l : Addr) (kv tv : V) (ks tl : Kds) (n : Nat), vs = [.ref p, kv, tv] ∧ PenAt H p l (n + 40) ∧ Pk K H kv (kindsDs ks) ∧ Tp K H tv (kindsD tl) ∧
  KdsOk ks ∧ TlsOk ks tl ∧
  ∀ z f H', Tp K H' z (Fm.d f) → PenAt H' p l n → But p H H' → FmOk ks tl f → Q z H'
def sorts : List Str := ["rule", "may", "never", "cost"]
theorem sorts_in : ∀ w ∈ sorts, inV (.str w) [.str "rule", .str "may"] = decide (w = "rule" ∨ w = "may") := by decide +kernel
theorem sorts_v : ∀ w ∈ sorts, decide (V.str w = V.str "never") = decide (w = "never") := by decide +kernel
theorem mem_nats {xs : List Nat} {d : PyData} (h : d ∈ xs.map (fun k => PyData.int (k : Nat))) : ∃ k ∈ xs, d = .int (k : Nat) := by
  obtain ⟨k, h1, h2⟩ := List.mem_map.mp h
  exact ⟨k, h1, h2.symm⟩
def hdD : List Atm → PyData
  | [] => .none
  | h :: _ => h.d
structure FmSt (K : PySem.W.Frag) (H0 H : Hp) (p l a : Addr) (m : Nat) (ks tl : Kds) (hd : List Atm) (b : List Pt) (kw : Kw) (hv bv : V) : Prop where
  pen : PenAt H p l m
  kn : KnAt H a kw
  kok : KwOk ks kw
  bt : But p H0 H
  hv : Tp K H hv (hdD hd)
  bv : Tp K H bv (bodyD b)
  occ : ∀ e ∈ kw, ∃ t ∈ hd ++ atomsIn b, Tm.any e.1 ∈ t.terms
  hok : ∀ t ∈ hd, AtmOk ks tl kw t
  bok : ∀ t ∈ b, PtOk ks tl kw t
theorem so_mem {α : Type} {x a b : α} (h : x ∈ [a, b]) : x = a ∨ x = b := by simpa using h
theorem so_mem3 {α : Type} {x a b : α} (h : x ∈ [a, a, b]) : x = a ∨ x = b := by simpa using h
def soPt (d : PyData) (t : Atm) (h : d = .str "so" ∨ d = .str "not") : ∃ pt : Pt, Pt.ds pt = [d, .str t.name, termsD t.terms] ∧ pt.atom = [t] ∧ ∀ ks tl kw, AtmOk ks tl kw t → PtOk ks tl kw pt := by
  rcases h with rfl | rfl
  · exact ⟨.so t, rfl, rfl, fun _ _ _ h => h⟩
  · exact ⟨.no t, rfl, rfl, fun _ _ _ h => h⟩
theorem atoms_app {a b : List Pt} : atomsIn (a ++ b) = atomsIn a ++ atomsIn b := by simp [atomsIn]
/-- a def that knows p and the new dict a alone changed H1 -/
theorem bt_new {H0 H H' : Hp} {p a : Addr} (b : But p H0 H) (x : Ext [p, a] H H') (ha : H0 a = none) : But p H0 H' := fun c o e hc => x c o (b c o e hc) (by
  have z := ne_of_none e ha
  simp [hc, z])
theorem FmSt.same {K : PySem.W.Frag} {H0 H H' : Hp} {p l a : Addr} {m : Nat} {ks tl : Kds} {hd : List Atm} {b : List Pt} {kw : Kw} {hv bv : V} (h : FmSt K H0 H p l a m ks tl hd b kw hv bv) (s : Same H H') : FmSt K H0 H' p l a m ks tl hd b kw hv bv :=
  ⟨h.pen.same s, s _ _ h.kn, h.kok, h.bt.trans (But.of s), h.hv.same s, h.bv.same s, h.occ, h.hok, h.bok⟩
theorem FmSt.mono {K : PySem.W.Frag} {H0 H : Hp} {p l a : Addr} {m m' : Nat} {ks tl : Kds} {hd : List Atm} {b : List Pt} {kw : Kw} {hv bv : V} (h : FmSt K H0 H p l a m ks tl hd b kw hv bv) (k : m' ≤ m) : FmSt K H0 H p l a m' ks tl hd b kw hv bv :=
  ⟨h.pen.mono k, h.kn, h.kok, h.bt, h.hv, h.bv, h.occ, h.hok, h.bok⟩
theorem FmSt.but {K : PySem.W.Frag} {H0 H H' : Hp} {p l a : Addr} {m m' : Nat} {ks tl : Kds} {hd : List Atm} {b : List Pt} {kw : Kw} {hv bv : V} (h : FmSt K H0 H p l a m ks tl hd b kw hv bv) (s : But p H H') (pen : PenAt H' p l m') : FmSt K H0 H' p l a m' ks tl hd b kw hv bv :=
  ⟨pen, s _ _ h.kn (kn_ne h.pen h.kn).1, h.kok, h.bt.trans s, h.hv.keep (.but s h.pen), h.bv.keep (.but s h.pen), h.occ, h.hok, h.bok⟩
theorem FmSt.nt {K : PySem.W.Frag} {H0 H : Hp} {p l a : Addr} {m : Nat} {ks tl : Kds} {hd : List Atm} {b : List Pt} {kw : Kw} {hv bv : V} (h : FmSt K H0 H p l a m ks tl hd b kw hv bv) : NoTup H [p, a] := .pen h.pen (.dict h.kn .nil)
theorem FmSt.add {K : PySem.W.Frag} {H0 H H1 H2 : Hp} {p l a : Addr} {m m1 m2 : Nat} {ks tl : Kds} {hd : List Atm} {b : List Pt} {kw more : Kw} {hv bv bv2' : V} {pt : Pt} (h : FmSt K H0 H p l a m ks tl hd b kw hv bv) (ha : H0 a = none) (x : Ext [p, a] H H1) (kn1 : KnAt H1 a (kw ++ more)) (kok1 : KwOk ks (kw ++ more))
    (pen1 : PenAt H1 p l m1) (s : But p H1 H2) (pen2 : PenAt H2 p l m2) (ok : PtOk ks tl (kw ++ more) pt) (oc : ∀ e ∈ more, ∃ t ∈ pt.atom, Tm.any e.1 ∈ t.terms) (bv2 : Tp K H2 bv2' (bodyD (b ++ [pt]))) : FmSt K H0 H2 p l a m2 ks tl hd (b ++ [pt]) (kw ++ more) hv bv2' := by
  have k1 : Tk K H H1 := Tk.ext x h.nt
  have k2 : Tk K H1 H2 := .but s pen1
  refine ⟨pen2, s _ _ kn1 (kn_ne pen1 kn1).1, kok1, (bt_new h.bt x ha).trans s, (h.hv.keep k1).keep k2, bv2, fun e he => ?_, fun t ht => (h.hok t ht).mono more, fun t ht => ?_⟩
  · rw [atoms_app]
    rcases List.mem_append.mp he with he | he
    · obtain ⟨t, h1, h2⟩ := h.occ e he
      refine ⟨t, ?_, h2⟩
      rcases List.mem_append.mp h1 with h1 | h1
      · exact List.mem_append_left _ h1
      · exact List.mem_append_right _ (List.mem_append_left _ h1)
    · obtain ⟨t, h1, h2⟩ := oc e he
      exact ⟨t, List.mem_append_right _ (List.mem_append_right _ (by simpa [atomsIn] using h1)), h2⟩
  · rcases List.mem_append.mp ht with ht | ht
    · exact (h.bok t ht).mono more
    · rw [List.mem_singleton.mp ht]
      exact ok
section
variable {P : Program} {w : World} {K : PySem.W.Frag} {mg : Str → Option Value} {base : Heap}
theorem scBookForm : FnScope ["pen", "kinds", "tells", "sort", "known", "head", "body", "lap", "name", "terms", "at"] ["pen", "kinds", "tells"] (defScope sBookForm) := ⟨rfl, rfl, rfl, by decide +kernel, rfl, by decide +kernel, by decide +kernel⟩
theorem ok_BookForm (D : DefAt K mg "_law_book_form" sBookForm) (B : Blt mg) (cDraw : Callee P w K mg base CX0 "_law_draw" 1 ["pen", "many"] spDraw) (cPick : Callee P w K mg base CX0 "_law_pick" 2 ["pen", "some"] (spPick K)) (cAtom : Callee P w K mg base CX0 "_law_book_atom" 4 ["pen", "kinds", "tells", "known"] (spAtom K)) (cSides : Callee P w K mg base CX0 "_law_book_sides" 4 ["pen", "kinds", "known"] (spSides K)) : Callee P w K mg base CX0 "_law_book_form" 5 ["pen", "kinds", "tells"] (spForm K) := by
  refine callee_of D scBookForm (fun _ _ _ _ _ _ us hl => match us, hl with | [_, _, _], _ => rfl) (fun vs H Q E h => ?_) (fun f cdv A outer s H vs Q E hG hr h => ?_)
  · obtain ⟨p, l, kv, tv, ks, tl, n, rfl, _⟩ := h
    rfl
  · obtain ⟨p, l, kv, tv, ks, tl, n, rfl, hP, hK, hT, ok, tok, fin⟩ := h
    have hu : (A.deeper (PyProof.Rows.envOfC "_law_book_form" (defScope sBookForm) s.heap.objs.size f cdv)).units + 64 < cLine := hr.units
    have hu1 : (A.deeper (PyProof.Rows.envOfC "_law_book_form" (defScope sBookForm) s.heap.objs.size f cdv)).units + 1 < cLine := by omega
    have hu2 : (A.deeper (PyProof.Rows.envOfC "_law_book_form" (defScope sBookForm) s.heap.objs.size f cdv)).units < cLine := by omega
    refine ⟨_, (pss_cons (ps_asg (pe_tup (pa_cons (pe_fn cPick hG (hr.mono (by decide)) pass0 (pa_cons (pv 0) (pa_cons (pe_op op_catL (pe_op op_catL (pe_op op_catL (pe_op op_repL (pe_lst (pa_cons pe_str pa_nil)) pe_int) (pe_op op_repL (pe_lst (pa_cons pe_str pa_nil)) pe_int)) (pe_op op_repL (pe_lst (pa_cons pe_str pa_nil)) pe_int)) (pe_lst (pa_cons pe_str pa_nil))) pa_nil))) (pa_cons pe_dnewK (pa_cons pe_non (pa_cons (pe_tup pa_nil) pa_nil))))) (pg_tup rfl (pgs_cons (pg_name (i := 3) scBookForm.nd rfl (Or.inl rfl)) (pgs_cons (pg_name (i := 4) scBookForm.nd rfl (Or.inl rfl)) (pgs_cons (pg_name (i := 5) scBookForm.nd rfl (Or.inl rfl)) (pgs_cons (pg_name (i := 6) scBookForm.nd rfl (Or.inl rfl)) pgs_nil))))))
      (C8.pss_cut (ps_if (pt_cmpR op_in_seq (pv 3) (pe_tup (pa_cons pe_str (pa_cons pe_str pa_nil))) (by rfl)) (pss_one (ps_set (i := 5) scBookForm.nd rfl (Or.inl rfl) (pe_fn cAtom hG (hr.mono (by decide)) pass0 (pa_cons (pv 0) (pa_cons (pv 1) (pa_cons (pv 2) (pa_cons (pv 4) pa_nil))))))) pss_nil)
      (pss_cons (ps_for PassesOwn.never rfl (pi_range1 rfl B.range (pa_cons (pe_fn cPick hG (hr.mono (by decide)) pass0 (pa_cons (pv 0) (pa_cons (pe_lst (pa_cons pe_int (pa_cons pe_int (pa_cons pe_int (pa_cons pe_int (pa_cons pe_int (pa_cons pe_int pa_nil))))))) pa_nil))) pa_nil)) (pg_name (i := 7) scBookForm.nd rfl (Or.inl rfl)) (pss_cons (ps_asg (pe_fn cAtom hG (hr.mono (by decide)) pass0 (pa_cons (pv 0) (pa_cons (pv 1) (pa_cons (pv 2) (pa_cons (pv 4) pa_nil))))) (pg_tup rfl (pgs_cons (pg_name (i := 8) scBookForm.nd rfl (Or.inl rfl)) (pgs_cons (pg_name (i := 9) scBookForm.nd rfl (Or.inl rfl)) pgs_nil))))
      (pss_one (ps_set (i := 6) scBookForm.nd rfl (Or.inl rfl) (pe_op op_catS (pv 6) (pe_tup (pa_cons (pe_tup (pa_cons (pe_fn cPick hG (hr.mono (by decide)) pass0 (pa_cons (pv 0) (pa_cons (pe_lst (pa_cons pe_str (pa_cons pe_str (pa_cons pe_str pa_nil)))) pa_nil))) (pa_cons (pv 8) (pa_cons (pv 9) pa_nil)))) pa_nil)))))))
      (C8.pss_cut (ps_if (PW.pt (pw_and (pt_cmpR (op_neD0 hu2) (pv 4) pe_dnewK (nomark _)) (pw_and1 (pt_cmpR op_eq (pe_fn cDraw hG (hr.mono (by decide)) pass0 (pa_cons (pv 0) (pa_cons pe_int pa_nil))) pe_int (nomark _))))) (pss_cons (ps_set (i := 10) scBookForm.nd rfl (Or.inl rfl) (pe_fn cDraw hG (hr.mono (by decide)) pass0 (pa_cons (pv 0) (pa_cons (pe_op op_add (pe_callB call_lenS (by rfl) B.len (by decide +kernel) (pa_cons (pv 6) pa_nil)) pe_int) pa_nil))))
      (pss_one (ps_set (i := 6) scBookForm.nd rfl (Or.inl rfl) (pe_op op_catS (pe_op op_catS (pe_slice sl_tupS (pv 6) po_none (po_some (pv 10))) (pe_tup (pa_cons (pe_fn cSides hG (hr.mono (by decide)) pass0 (pa_cons (pv 0) (pa_cons (pv 1) (pa_cons (pv 4) pa_nil)))) pa_nil))) (pe_slice sl_tupS (pv 6) (po_some (pv 10)) po_none))))) pss_nil)
      (pss_cons (ps_if (pt_cmpR op_eq (pv 3) pe_str (nomark _)) (pss_cons (ps_asg (pe_fn cAtom hG (hr.mono (by decide)) pass0 (pa_cons (pv 0) (pa_cons (pv 1) (pa_cons (pv 2) (pa_cons (pv 4) pa_nil))))) (pg_tup rfl (pgs_cons (pg_name (i := 8) scBookForm.nd rfl (Or.inl rfl)) (pgs_cons (pg_name (i := 9) scBookForm.nd rfl (Or.inl rfl)) pgs_nil))))
      (pss_one (ps_ret (pe_tup (pa_cons pe_str (pa_cons (pe_op op_catS (pv 6) (pe_tup (pa_cons (pe_tup (pa_cons (pe_fn cPick hG (hr.mono (by decide)) pass0 (pa_cons (pv 0) (pa_cons (pe_lst (pa_cons pe_str (pa_cons pe_str pa_nil))) pa_nil))) (pa_cons (pv 8) (pa_cons (pv 9) pa_nil)))) pa_nil))) pa_nil)))))) pss_nil)
      (pss_cons (ps_if (pt_cmpR op_eq (pv 3) pe_str (nomark _)) (pss_one (ps_ret (pe_tup (pa_cons pe_str (pa_cons (pe_fn cPick hG (hr.mono (by decide)) pass0 (pa_cons (pv 0) (pa_cons (pe_lst (pa_cons (pe_tup (pa_cons pe_int (pa_cons pe_int pa_nil))) (pa_cons (pe_tup (pa_cons pe_int (pa_cons pe_int pa_nil))) (pa_cons (pe_tup (pa_cons pe_int (pa_cons pe_int pa_nil))) (pa_cons (pe_tup (pa_cons pe_int (pa_cons pe_int pa_nil))) (pa_cons (pe_tup (pa_cons pe_int (pa_cons pe_int pa_nil))) pa_nil)))))) pa_nil))) (pa_cons (pv 6) pa_nil)))))) pss_nil)
      (pss_one (ps_ret (pe_tup (pa_cons (pv 3) (pa_cons (pv 5) (pa_cons (pv 6) pa_nil)))))))))))), ?_⟩
    have s40 : 40 ≤ sizeLine := by decide
    have ones : ∀ {H' : Hp} {q : Addr} {x : Str}, H' q = some (.lst [V.str x]) → LsAt K H' q [.str x] := fun e => ⟨_, e, .one (.str _)⟩
    refine ⟨_, rfl, by show 1 ≤ sizeLine; omega, fun q1 n1 => ?_⟩
    have s1 := Same.new (o := .lst [V.str "rule"]) n1
    refine ⟨q1, 5, [.str "rule"], rfl, rfl, ones upd_same, by decide, by show 1 * 5 ≤ sizeLine; omega, fun q2 H2 n2 s2 l2 => ?_⟩
    refine ⟨by show 1 ≤ sizeLine; omega, fun q3 n3 => ?_⟩
    have s3 := Same.new (o := .lst [V.str "may"]) n3
    refine ⟨q3, 2, [.str "may"], rfl, rfl, ones upd_same, by decide, by show 1 * 2 ≤ sizeLine; omega, fun q4 H4 n4 s4 l4 => ?_⟩
    refine ⟨q2, q4, _, _, rfl, rfl, l2.same (s3.trans s4), l4, by show 5 + 2 ≤ sizeLine; omega, fun q5 H5 n5 s5 l5 => ?_⟩
    refine ⟨by show 1 ≤ sizeLine; omega, fun q6 n6 => ?_⟩
    have s6 := Same.new (o := .lst [V.str "never"]) n6
    refine ⟨q6, 2, [.str "never"], rfl, rfl, ones upd_same, by decide, by show 1 * 2 ≤ sizeLine; omega, fun q7 H7 n7 s7 l7 => ?_⟩
    refine ⟨q5, q7, _, _, rfl, rfl, l5.same (s6.trans s7), l7, by show 7 + 2 ≤ sizeLine; omega, fun q8 H8 n8 s8 l8 => ?_⟩
    refine ⟨by show 1 ≤ sizeLine; omega, fun q9 n9 => ?_⟩
    have s9 := Same.new (o := .lst [V.str "cost"]) n9
    refine ⟨q8, q9, _, _, rfl, rfl, l8.same s9, ones upd_same, by show 9 + 1 ≤ sizeLine; omega, fun q10 H10 n10 s10 l10 => ?_⟩
    have sA : Same H H10 := s1.trans (s2.trans (s3.trans (s4.trans (s5.trans (s6.trans (s7.trans (s8.trans (s9.trans s10))))))))
    refine ⟨p, l, .ref q10, _, n + 39, rfl, hP.same sA, l10.sq, (fun z => nomatch z), (by decide), fun v d H11 hd tvw hP11 bt11 => ?_⟩
    have hw : ∃ w ∈ sorts, d = .str w := by
      rcases List.mem_append.mp hd with hd | hd
      · rcases List.mem_append.mp hd with hd | hd
        · rcases List.mem_append.mp hd with hd | hd
          · exact ⟨"rule", by decide +kernel, mem_rep hd⟩
          · exact ⟨"may", by decide +kernel, mem_rep hd⟩
        · exact ⟨"never", by decide +kernel, mem_rep hd⟩
      · exact ⟨"cost", by decide +kernel, List.mem_singleton.mp hd⟩
    obtain ⟨w0, hw, rfl⟩ := hw
    have ev := tvw.str_inv
    subst ev
    have b11 : But p H H11 := (But.of sA).trans bt11
    refine fun a na => ⟨by show 0 ≤ sizeLine; omega, fun q11 n11 => ⟨by show 4 ≤ sizeLine; omega, fun q12 n12 => ⟨q12, _, rfl, SqT.of upd_same, rfl, _, _, rfl, _, _, rfl, _, _, rfl, _, _, rfl, rfl, ?_⟩⟩⟩
    have ha0 : H a = none := by
      cases e : H a with
      | none => rfl
      | some o =>
        by_cases z : a = p
        · subst z
          obtain ⟨kvs, z⟩ := hP11.some
          rw [z] at na
          cases na
        · have z := b11 a o e z
          rw [na] at z
          cases z
    have sa := Same.new (o := .dK []) na
    have sb := Same.new (o := .tup []) n11
    have sc := Same.new (o := .tup [V.str w0, .ref a, .non, .ref q11]) n12
    have st0 : FmSt K H _ p l a (n + 39) ks tl [] [] [] .non (.ref q11) := FmSt.same ⟨hP11.same (sa.trans sb), sb _ _ upd_same, ⟨by simp, by simp, by simp⟩, b11.trans (But.of (sa.trans sb)), .non, tp_new n11 .nil, by simp, by simp, by simp⟩ sc
    generalize hHc : upd (upd (upd H11 a (.dK [])) q11 (.tup [])) q12 (.tup [V.str w0, .ref a, .non, .ref q11]) = Hc at st0
    have hb0 : ∀ {H' : Hp} {m hd b kw hv bv}, FmSt K H H' p l a m ks tl hd b kw hv bv → Pk K H' kv (kindsDs ks) ∧ Tp K H' tv (kindsD tl) := fun st => ⟨hK.but hP st.bt, hT.keep (.but st.bt hP)⟩
    refine ⟨fun σ' H' => ∃ hd kw hv bv, σ' = [some (.ref p), some kv, some tv, some (.str w0), some (.ref a), some hv, some bv, none, none, none, none] ∧ FmSt K H H' p l a (n + 34) ks tl hd [] kw hv bv ∧ ((w0 = "rule" ∨ w0 = "may") → ∃ h, hd = [h]) ∧ (¬ (w0 = "rule" ∨ w0 = "may") → hd = []), ?_, ?_⟩
    · refine ⟨_, rfl, by show 2 ≤ sizeLine; omega, fun q13 n13 => ⟨q13, _, rfl, .inr (SqT.of upd_same), rfl, rfl, _, rfl, ite2 (fun h => ?_) (fun h => ?_)⟩⟩
      · have h1 : inV (.str w0) [.str "rule", .str "may"] = true := h
        rw [sorts_in _ hw] at h1
        have h2 := of_decide_eq_true h1
        have st1 := st0.same (Same.new (o := .tup [V.str "rule", V.str "may"]) n13)
        obtain ⟨k1, k2⟩ := hb0 st1
        refine ⟨_, rfl, _, rfl, _, rfl, _, rfl, p, l, a, kv, tv, ks, tl, [], n + 34, rfl, st1.pen, k1, k2, st1.kn, ok, tok, st1.kok, fun z t more H' tz kn' kok' pen' x' tm mr => ?_⟩
        refine ⟨[t], more, z, _, rfl, ⟨pen', kn', kok', bt_new st1.bt x' ha0, tz, st1.bv.keep (.ext x' st1.nt), fun e he => ⟨t, by simp, mr e he⟩, fun u hu => ?_, by simp⟩, fun _ => ⟨t, rfl⟩, fun h3 => absurd h2 h3⟩
        rw [List.mem_singleton.mp hu]
        exact tm
      · have h1 : ¬ inV (.str w0) [.str "rule", .str "may"] = true := h
        rw [sorts_in _ hw] at h1
        have h2 : ¬ (w0 = "rule" ∨ w0 = "may") := fun z => h1 (decide_eq_true z)
        exact ⟨[], [], _, _, rfl, (st0.same (Same.new (o := .tup [V.str "rule", V.str "may"]) n13)).mono (by omega), fun z => absurd z h2, fun _ => rfl⟩
    rintro σ1 H1 ⟨hds, kw, hv, bv, rfl, st, hh1, hh2⟩
    refine ⟨_, rfl, by show 6 ≤ sizeLine; omega, fun q14 n14 => ?_⟩
    have s14 := Same.new (o := .lst [V.int 0, .int 1, .int 1, .int 2, .int 2, .int 3]) n14
    have st2 := st.same s14
    refine ⟨p, l, .ref q14, ([0, 1, 1, 2, 2, 3] : List Nat).map (fun k => PyData.int (k : Nat)), n + 33, rfl, st2.pen, LsAt.sq ⟨_, upd_same, .cons (.int _) (.cons (.int _) (.cons (.int _) (.cons (.int _) (.cons (.int _) (.cons (.int _) .nil)))))⟩, (fun z => nomatch z), (by decide), fun v d H2 hd2 tv2 hP2 bt2 => ?_⟩
    obtain ⟨k, hk, rfl⟩ := mem_nats hd2
    have hk3 : k ≤ 3 := (show ∀ k ∈ ([0, 1, 1, 2, 2, 3] : List Nat), k ≤ 3 by decide) k hk
    have ev := tv2.int_inv
    subst ev
    have st3 := st2.but bt2 hP2
    refine ⟨_, rfl, by omega, by omega, ?_⟩
    refine for_range (lo := 0) (n := k) (fun i σ' H' => ∃ kw b bv lv nv tvv, σ' = [some (.ref p), some kv, some tv, some (.str w0), some (.ref a), some hv, some bv, lv, nv, tvv, none] ∧ FmSt K H H' p l a (n + 15 + 6 * (3 - i)) ks tl hds b kw hv bv ∧ b.length = i) ?_ ?_ ?_
    · exact ⟨kw, [], bv, _, _, _, rfl, st3, rfl⟩
    · rintro i σ3 H3 hi ⟨kw, b, bv, lv, nv, tvv, rfl, st, lb⟩
      obtain ⟨k1, k2⟩ := hb0 st
      refine ⟨_, rfl, _, rfl, _, rfl, _, rfl, p, l, a, kv, tv, ks, tl, kw, n + 15 + 6 * (3 - (i + 1)) + 1, rfl, st.pen.mono (by omega), k1, k2, st.kn, ok, tok, st.kok, fun z t more H4 tz kn4 kok4 pen4 x4 tm mr => ?_⟩
      obtain ⟨b4, y1, y2, rfl, sq, t1, t2⟩ := (show Tp K H4 z (.tuple [.str t.name, termsD t.terms]) from tz).pair
      have e1 := t1.str_inv
      subst e1
      refine ⟨b4, _, rfl, sq, rfl, _, _, rfl, _, _, rfl, rfl, ?_⟩
      refine ⟨_, rfl, _, rfl, by show 3 ≤ sizeLine; omega, fun q15 n15 => ?_⟩
      have s15 := Same.new (o := .lst [V.str "so", .str "so", .str "not"]) n15
      refine ⟨p, l, .ref q15, [.str "so", .str "so", .str "not"], n + 15 + 6 * (3 - (i + 1)), rfl, pen4.same s15, LsAt.sq ⟨_, upd_same, .cons (.str _) (.cons (.str _) (.cons (.str _) .nil))⟩, (fun z => nomatch z), (by decide), fun v5 d5 H5 hd5 tv5 hP5 bt5 => ?_⟩
      obtain ⟨pt, epd, epa, epo⟩ := soPt d5 t (so_mem3 hd5)
      have b45 : But p H4 H5 := (But.of s15).trans bt5
      have k45 : Tk K H4 H5 := .but b45 pen4
      refine ⟨_, rfl, _, rfl, by show 3 ≤ sizeLine; omega, fun q16 n16 => ⟨by show 1 ≤ sizeLine; omega, fun q17 n17 => ?_⟩⟩
      have s16 := Same.new (o := .tup [v5, .str t.name, y2]) n16
      have s17 := Same.new (o := .tup [.ref q16]) n17
      have tpt : Tp K (upd H5 q16 (.tup [v5, .str t.name, y2])) (.ref q16) pt.d := by
        unfold Pt.d
        rw [epd]
        exact tp_new n16 (.cons tv5 (.cons (.str _) (.cons (t2.keep k45) .nil)))
      have tbv : Tp K H5 bv (.tuple (bodyDs b)) := (st.bv.keep (.ext x4 st.nt)).keep k45
      refine ⟨bodyDs b, [pt.d], tbv.same (s16.trans s17), tp_new n17 (.one tpt), by rw [bodyDs, List.length_map, lb]; show i + 1 ≤ sizeLine; omega, fun z6 H6 s6 t6 => ?_⟩
      have s56 := (s16.trans s17).trans s6
      refine ⟨kw ++ more, b ++ [pt], z6, _, _, _, rfl, st.add ha0 x4 kn4 kok4 pen4 (b45.trans (But.of s56)) (hP5.same s56) (epo _ _ _ tm) (fun e he => ⟨t, by rw [epa]; simp, mr e he⟩) ?_, by rw [List.length_append, lb]; rfl⟩
      unfold bodyD bodyDs
      rw [List.map_append]
      exact t6
    rintro σ3 H3 ⟨kw, b, bv, lv, nv, tvv, rfl, st, lb⟩
    have st := st.mono (m' := n + 15) (by omega)
    refine ⟨fun σ' H' => ∃ kw b bv av, σ' = [some (.ref p), some kv, some tv, some (.str w0), some (.ref a), some hv, some bv, lv, nv, tvv, av] ∧ FmSt K H H' p l a (n + 9) ks tl hds b kw hv bv ∧ b.length ≤ 4, ?_, ?_⟩
    · refine ⟨_, rfl, fun q18 n18 => ⟨a, q18, kwKV kw, rfl, rfl, Same.new n18 _ _ st.kn, upd_same, _, rfl, ite2 (fun h => ?_) (fun h => ite2 (fun z => Bool.noConfusion (show false = true from z)) (fun _ => ⟨kw, b, bv, _, rfl, (st.same (Same.new n18)).mono (by omega), by omega⟩))⟩⟩
      have hne : kw ≠ [] := fun z => (of_decide_eq_true h) (by rw [z]; rfl)
      have st4 := st.same (Same.new (o := .dK []) n18)
      refine ⟨_, rfl, p, l, 3, n + 14, rfl, st4.pen, by decide, by decide, fun r H4 r0 r1 hP4 bt4 => ⟨rfl, _, rfl, ite2 (fun h2 => ?_) (fun h2 => ⟨kw, b, bv, _, rfl, (st4.but bt4 hP4).mono (by omega), by omega⟩)⟩⟩
      have st5 := st4.but bt4 hP4
      refine ⟨_, rfl, _, rfl, bv, bodyDs b, rfl, .inr st5.bv, _, _, rfl, rfl, p, l, ((bodyDs b).length : Int) + 1, n + 13, rfl, st5.pen, by omega, by rw [bodyDs, List.length_map, lb]; omega, fun at' H5 j0 j1 hP5 bt5 => ?_⟩
      obtain ⟨j, rfl⟩ : ∃ j : Nat, at' = (j : Int) := ⟨at'.toNat, by omega⟩
      have hj : j ≤ (bodyDs b).length := by omega
      have st6 := st5.but bt5 hP5
      refine ⟨_, rfl, _, rfl, _, rfl, bodyDs b, st6.bv, fun z1 H6 s6 t6 => ?_⟩
      rw [cutD_to hj] at t6
      have st7 := st6.same s6
      obtain ⟨k1, k2⟩ := hb0 st7
      refine ⟨_, rfl, _, rfl, _, rfl, p, l, a, kv, ks, kw, n + 9, rfl, st7.pen, k1, st7.kn, ok, st7.kok, hne, fun z2 pt H7 t7 hP7 bt7 hpt => ?_⟩
      have st8 := st7.but bt7 hP7
      have t6b := t6.keep (.but bt7 st7.pen)
      refine ⟨by show 1 ≤ sizeLine; omega, fun q19 n19 => ?_⟩
      have s19 := Same.new (o := .tup [z2]) n19
      have lb3 : (bodyDs b).length ≤ 3 := by rw [bodyDs, List.length_map]; omega
      refine ⟨_, _, t6b.same s19, tp_new n19 (.one t7), by rw [List.length_take]; show _ + 1 ≤ sizeLine; omega, fun z3 H8 s8 t8 => ?_⟩
      have st9 := (st8.same s19).same s8
      refine ⟨_, rfl, _, rfl, _, rfl, bodyDs b, st9.bv, fun z4 H9 s9 t9 => ?_⟩
      rw [cutD_from hj] at t9
      have st10 := st9.same s9
      refine ⟨_, _, t8.same s9, t9, by rw [List.length_append, List.length_take, List.length_drop]; show _ + 1 + _ ≤ sizeLine; omega, fun z5 H10 s10 t10 => ?_⟩
      have st11 := st10.same s10
      have eb : (bodyDs b).take j ++ [pt.d] ++ (bodyDs b).drop j = bodyDs (b.take j ++ [pt] ++ b.drop j) := by
        simp [bodyDs, List.map_take, List.map_drop]
      rw [eb] at t10
      refine ⟨kw, b.take j ++ [pt] ++ b.drop j, z5, _, rfl, ⟨st11.pen, st11.kn, st11.kok, st11.bt, st11.hv, t10, fun e he => ?_, st11.hok, fun t ht => ?_⟩, ?_⟩
      · obtain ⟨t, h1, h2⟩ := st11.occ e he
        refine ⟨t, ?_, h2⟩
        rcases List.mem_append.mp h1 with h1 | h1
        · exact List.mem_append_left _ h1
        · refine List.mem_append_right _ ?_
          rw [atoms_app, atoms_app]
          have z : atomsIn b = atomsIn (b.take j) ++ atomsIn (b.drop j) := by rw [← atoms_app, List.take_append_drop]
          rw [z] at h1
          rcases List.mem_append.mp h1 with h1 | h1
          · exact List.mem_append_left _ (List.mem_append_left _ h1)
          · exact List.mem_append_right _ h1
      · rcases List.mem_append.mp ht with ht | ht
        · rcases List.mem_append.mp ht with ht | ht
          · exact st11.bok t (List.mem_of_mem_take ht)
          · rw [List.mem_singleton.mp ht]
            exact hpt tl
        · exact st11.bok t (List.mem_of_mem_drop ht)
      · have z : (b.take j ++ [pt] ++ b.drop j).length = b.length + 1 := by
          rw [List.length_append, List.length_append, List.length_take, List.length_drop]
          rw [bodyDs, List.length_map] at hj
          show _ + 1 + _ = _
          omega
        omega
    rintro σ4 H4 ⟨kw, b, bv, av, rfl, st, lb⟩
    obtain ⟨k1, k2⟩ := hb0 st
    refine ⟨_, rfl, rfl, _, rfl, ite2 (fun h => ?_) (fun h => ?_)⟩
    · have hn : w0 = "never" := by
        rw [sorts_v w0 hw] at h
        exact of_decide_eq_true h
      have hds0 : hds = [] := hh2 (by rw [hn]; decide +kernel)
      subst hn hds0
      refine ⟨_, rfl, _, rfl, _, rfl, _, rfl, p, l, a, kv, tv, ks, tl, kw, n + 1, rfl, st.pen.mono (by omega), k1, k2, st.kn, ok, tok, st.kok, fun z t more H5 tz kn4 kok4 pen4 x4 tm mr => ?_⟩
      obtain ⟨b4, y1, y2, rfl, sq, t1, t2⟩ := (show Tp K H5 z (.tuple [.str t.name, termsD t.terms]) from tz).pair
      have e1 := t1.str_inv
      subst e1
      refine ⟨b4, _, rfl, sq, rfl, _, _, rfl, _, _, rfl, rfl, ?_⟩
      refine ⟨_, rfl, _, rfl, by show 2 ≤ sizeLine; omega, fun q15 n15 => ?_⟩
      have s15 := Same.new (o := .lst [V.str "so", .str "not"]) n15
      refine ⟨p, l, .ref q15, [.str "so", .str "not"], n, rfl, pen4.same s15, LsAt.sq ⟨_, upd_same, .cons (.str _) (.cons (.str _) .nil)⟩, (fun z => nomatch z), (by decide), fun v5 d5 H6 hd5 tv5 hP5 bt5 => ?_⟩
      obtain ⟨pt, epd, epa, epo⟩ := soPt d5 t (so_mem hd5)
      have b45 : But p H5 H6 := (But.of s15).trans bt5
      have k45 : Tk K H5 H6 := .but b45 pen4
      refine ⟨_, rfl, _, rfl, by show 3 ≤ sizeLine; omega, fun q16 n16 => ⟨by show 1 ≤ sizeLine; omega, fun q17 n17 => ?_⟩⟩
      have s16 := Same.new (o := .tup [v5, .str t.name, y2]) n16
      have s17 := Same.new (o := .tup [.ref q16]) n17
      have tpt : Tp K (upd H6 q16 (.tup [v5, .str t.name, y2])) (.ref q16) pt.d := by
        unfold Pt.d
        rw [epd]
        exact tp_new n16 (.cons tv5 (.cons (.str _) (.cons (t2.keep k45) .nil)))
      have tbv : Tp K H6 bv (.tuple (bodyDs b)) := (st.bv.keep (.ext x4 st.nt)).keep k45
      refine ⟨bodyDs b, [pt.d], tbv.same (s16.trans s17), tp_new n17 (.one tpt), by rw [bodyDs, List.length_map]; show b.length + 1 ≤ sizeLine; omega, fun z6 H7 s6 t6 => ?_⟩
      have s56 := (s16.trans s17).trans s6
      have t7 : Tp K H7 z6 (bodyD (b ++ [pt])) := by
        unfold bodyD bodyDs
        rw [List.map_append]
        exact t6
      have fs := st.add ha0 x4 kn4 kok4 pen4 (b45.trans (But.of s56)) (hP5.same s56) (epo _ _ _ tm) (fun e he => ⟨t, by rw [epa]; simp, mr e he⟩) t7
      refine ⟨by show 2 ≤ sizeLine; omega, fun q20 n20 => ?_⟩
      have s20 := Same.new (o := .tup [V.str "never", z6]) n20
      exact fin (.ref q20) (.never (b ++ [pt])) _ (tp_new n20 (.cons (.str _) (.cons t7 .nil))) (fs.pen.same s20) (fs.bt.trans (But.of s20)) ⟨⟨_, fs.kok, fs.occ, fs.hok, fs.bok⟩, by show (b ++ [pt]).length ≤ 5; rw [List.length_append]; show b.length + 1 ≤ 5; omega, fun n m b e => by cases e⟩
    have hnv : w0 ≠ "never" := fun z => h (by rw [z]; decide +kernel)
    refine ⟨_, rfl, rfl, _, rfl, ite2 (fun h => ?_) (fun h => ?_)⟩
    · have hn : w0 = "cost" := by
        have z := of_decide_eq_true h
        injection z
      have hds0 : hds = [] := hh2 (by rw [hn]; decide +kernel)
      subst hn hds0
      have i5 : 2 ≤ sizeLine := by omega
      refine ⟨_, rfl, i5, fun q1 n1 => ⟨i5, fun q2 n2 => ⟨i5, fun q3 n3 => ⟨i5, fun q4 n4 => ⟨i5, fun q5 n5 => ⟨by show 5 ≤ sizeLine; omega, fun q6 n6 => ?_⟩⟩⟩⟩⟩⟩
      have s1 := Same.new (o := .tup [V.int 1, .int 1]) n1
      have s2 := Same.new (o := .tup [V.int 1, .int 2]) n2
      have s3 := Same.new (o := .tup [V.int 3, .int 1]) n3
      have s4 := Same.new (o := .tup [V.int 0, .int 1]) n4
      have s5 := Same.new (o := .tup [V.int 2, .int 3]) n5
      have s6 := Same.new (o := .lst [V.ref q1, .ref q2, .ref q3, .ref q4, .ref q5]) n6
      have two : ∀ {H' : Hp} {q : Addr} {x y : Int}, H' q = some (.tup [V.int x, .int y]) → Tp K H' (.ref q) (.tuple [.int x, .int y]) := fun e => .tup (SqT.of e) (.cons (.int _) (.cons (.int _) .nil))
      have t1 := ((((two (upd_same (H := H4) (a := q1))).same s2).same s3).same s4).same s5
      have t2 := (((two (upd_same (H := upd H4 q1 (.tup [V.int 1, .int 1])) (a := q2))).same s3).same s4).same s5
      have t3 := ((two (upd_same (H := upd (upd H4 q1 (.tup [V.int 1, .int 1])) q2 (.tup [V.int 1, .int 2])) (a := q3))).same s4).same s5
      have t4 := (two (upd_same (H := upd (upd (upd H4 q1 (.tup [V.int 1, .int 1])) q2 (.tup [V.int 1, .int 2])) q3 (.tup [V.int 3, .int 1])) (a := q4))).same s5
      have t5 := two (upd_same (H := upd (upd (upd (upd H4 q1 (.tup [V.int 1, .int 1])) q2 (.tup [V.int 1, .int 2])) q3 (.tup [V.int 3, .int 1])) q4 (.tup [V.int 0, .int 1])) (a := q5) (o := .tup [V.int 2, .int 3]))
      have st5 := st.same (s1.trans (s2.trans (s3.trans (s4.trans (s5.trans s6)))))
      have ls := ls_new n6 (.cons t1 (.cons t2 (.cons t3 (.cons t4 (.cons t5 .nil)))))
      refine ⟨p, l, .ref q6, _, n, rfl, st5.pen.mono (by omega), ls.sq, (fun z => nomatch z), (by show 5 ≤ 1000; decide), fun v5 d5 H6 hd5 tv5 hP5 bt5 => ?_⟩
      have st6 := st5.but bt5 hP5
      have hc : ∃ c : Int × Int, c ∈ costs ∧ d5 = .tuple [.int c.1, .int c.2] := by
        rcases List.mem_cons.mp hd5 with h | hd5
        · exact ⟨(1, 1), by decide, h⟩
        rcases List.mem_cons.mp hd5 with h | hd5
        · exact ⟨(1, 2), by decide, h⟩
        rcases List.mem_cons.mp hd5 with h | hd5
        · exact ⟨(3, 1), by decide, h⟩
        rcases List.mem_cons.mp hd5 with h | hd5
        · exact ⟨(0, 1), by decide, h⟩
        · exact ⟨(2, 3), by decide, List.mem_singleton.mp hd5⟩
      obtain ⟨⟨cn, cm⟩, hc, rfl⟩ := hc
      refine ⟨_, rfl, by show 3 ≤ sizeLine; omega, fun q20 n20 => ?_⟩
      have s20 := Same.new (o := .tup [V.str "cost", v5, bv]) n20
      exact fin (.ref q20) (.cost cn cm b) _ (tp_new n20 (.cons (.str _) (.cons tv5 (.cons st6.bv .nil)))) (st6.pen.same s20) (st6.bt.trans (But.of s20)) ⟨⟨_, st6.kok, st6.occ, st6.hok, st6.bok⟩, by show b.length ≤ 5; omega, fun n m b e => by cases e; exact hc⟩
    have hct : w0 ≠ "cost" := fun z => h (by rw [z]; decide +kernel)
    have hrm : w0 = "rule" ∨ w0 = "may" := by
      rcases List.mem_cons.mp hw with h | hw
      · exact .inl h
      rcases List.mem_cons.mp hw with h | hw
      · exact .inr h
      rcases List.mem_cons.mp hw with h | hw
      · exact absurd h hnv
      · exact absurd (List.mem_singleton.mp hw) hct
    obtain ⟨hdA, rfl⟩ := hh1 hrm
    refine ⟨_, rfl, _, rfl, _, rfl, by show 3 ≤ sizeLine; omega, fun q20 n20 => ?_⟩
    have s20 := Same.new (o := .tup [V.str w0, hv, bv]) n20
    rcases hrm with rfl | rfl
    · exact fin (.ref q20) (.rule hdA b) _ (tp_new n20 (.cons (.str _) (.cons st.hv (.cons st.bv .nil)))) ((st.pen.mono (by omega)).same s20) (st.bt.trans (But.of s20)) ⟨⟨_, st.kok, st.occ, st.hok, st.bok⟩, by show b.length ≤ 5; omega, fun n m b e => by cases e⟩
    · exact fin (.ref q20) (.may hdA b) _ (tp_new n20 (.cons (.str _) (.cons st.hv (.cons st.bv .nil)))) ((st.pen.mono (by omega)).same s20) (st.bt.trans (But.of s20)) ⟨⟨_, st.kok, st.occ, st.hok, st.bok⟩, by show b.length ≤ 5; omega, fun n m b e => by cases e⟩
end

end Og

set_option Elab.async false
set_option linter.all false
set_option maxRecDepth 100000
set_option maxHeartbeats 8000000
namespace Og
open PySem L2
def spPickV : Sp := fun vs H Q _ => ∃ (p l q : Addr) (xs : List V) (n : Nat), vs = [.ref p, .ref q] ∧ PenAt H p l (n + 1) ∧ H q = some (.lst xs) ∧ xs ≠ [] ∧ xs.length ≤ 1000 ∧
  ∀ x H', x ∈ xs → PenAt H' p l n → But p H H' → Q x H'
def spPlant (K : PySem.W.Frag) : Sp := fun vs H Q _ => ∃ (p l : Addr) (tv : V) (ks tl : Kds) (n : Nat), vs = [.ref p, tv] ∧ PenAt H p l (n + 6) ∧ Tp K H tv (kindsD tl) ∧ KdsOk ks ∧ TlsOk ks tl ∧
  ∀ (q : Addr) (fs : List Fm) (H' : Hp), H q = none → LsAt K H' q (fs.map Fm.d) → (∀ f ∈ fs, FmOk ks tl f) → fs.length ≤ 2 → PenAt H' p l n → But p H H' → Q (.ref q) H'
def pBare (t : Str × List Str) : Option PyData := if t.2 = [] then some (.str t.1) else none
theorem bare_map {tl : Kds} : tl.filterMap pBare = ((tl.filter fun t => decide (t.2 = [])).map (·.1)).map PyData.str := by
  induction tl with
  | nil => rfl
  | cons t r ih =>
    rw [List.filterMap_cons, List.filter_cons, ih]
    by_cases e : t.2 = []
    · simp [pBare, e]
    · simp [pBare, e]
theorem kind_strOk : ∀ x ∈ kindNames, PyData.strOk x = true := by decide +kernel
/-- a form of bare atoms -/
theorem fm_bare {ks tl : Kds} {f : Fm} (h : ∀ a ∈ f.atoms, a.terms = [] ∧ (a.name, []) ∈ tl) (hb : ∀ p ∈ f.body, ∃ a, p = .so a ∨ p = .no a) (hl : f.body.length ≤ 5) (hc : ∀ n m b, f = .cost n m b → (n, m) ∈ costs) : FmOk ks tl f := by
  have one : ∀ a ∈ f.atoms, AtmOk ks tl [] a := fun a ha => by
    obtain ⟨e, m⟩ := h a ha
    refine ⟨[], m, ?_⟩
    rw [e]
    exact True.intro
  refine ⟨⟨[], ⟨by simp, by simp, by simp⟩, by simp, fun a ha => one a (List.mem_append_left _ ha), fun p hp => ?_⟩, hl, hc⟩
  have at' : ∀ a ∈ p.atom, a ∈ f.atoms := fun a ha => List.mem_append_right _ (List.mem_flatMap.mpr ⟨p, hp, ha⟩)
  obtain ⟨a, rfl | rfl⟩ := hb p hp
  · exact one a (at' a (by simp [Pt.atom]))
  · exact one a (at' a (by simp [Pt.atom]))
section
variable {P : Program} {w : World} {K : PySem.W.Frag} {mg : Str → Option Value} {base : Heap}
theorem ok_PickV (D : DefAt K mg "_law_pick" sPick) (B : Blt mg) (cDraw : Callee P w K mg base CX0 "_law_draw" 1 ["pen", "many"] spDraw) : Callee P w K mg base CX0 "_law_pick" 2 ["pen", "some"] spPickV := by
  refine callee_of D scPick (fun _ _ _ _ _ _ us hl => match us, hl with | [_, _], _ => rfl) (fun vs H Q E h => ?_) (fun f cdv A outer s H vs Q E hG hr h => ?_)
  · obtain ⟨p, l, q, xs, n, rfl, _⟩ := h
    rfl
  · obtain ⟨p, l, q, xs, n, rfl, hP, hq, hne, hlen, k⟩ := h
    have hu : (A.deeper (PyProof.Rows.envOfC "_law_pick" (defScope sPick) s.heap.objs.size f cdv)).units + 64 < cLine := hr.units
    have hu1 : (A.deeper (PyProof.Rows.envOfC "_law_pick" (defScope sPick) s.heap.objs.size f cdv)).units + 1 < cLine := by omega
    have hu2 : (A.deeper (PyProof.Rows.envOfC "_law_pick" (defScope sPick) s.heap.objs.size f cdv)).units < cLine := by omega
    refine ⟨_, (pss_one (ps_ret (pe_ix ix_list (pv 1) (pe_fn cDraw hG (hr.mono (by decide)) pass0 (pa_cons (pv 0) (pa_cons (pe_callB call_len_seq (by rfl) B.len (by decide +kernel) (pa_cons (pv 1) pa_nil)) pa_nil))) (fun _ _ => rfl)))), ?_⟩
    have pos : 0 < xs.length := List.length_pos_iff.mpr hne
    refine ⟨_, rfl, _, rfl, _, rfl, q, xs, rfl, .inl (SqL.of hq), p, l, (xs.length : Int), n, rfl, hP, by omega, by omega, fun r H' r0 r1 hP' bt => ?_⟩
    obtain ⟨j, rfl⟩ : ∃ j : Nat, r = (j : Int) := ⟨r.toNat, by omega⟩
    have hj : j < xs.length := by omega
    obtain ⟨kvs, z⟩ := hP.some
    exact ⟨q, xs, _, xs[j], rfl, rfl, SqL.of (bt q _ hq (ne_of hq z (by intro q; cases q))), atI_of hj, k _ H' (List.getElem_mem hj) hP' bt⟩
end
section
variable {P : Program} {w : World} {K : PySem.W.Frag} {mg : Str → Option Value} {base : Heap}
theorem scBookPlanted : FnScope ["pen", "tells", "bare", "name", "places", "one", "other", "a", "b", "some"] ["pen", "tells"] (defScope sBookPlanted) := ⟨rfl, rfl, rfl, by decide +kernel, rfl, by decide +kernel, by decide +kernel⟩
theorem ok_BookPlanted (D : DefAt K mg "_law_book_planted" sBookPlanted) (B : Blt mg) (cPick : Callee P w K mg base CX0 "_law_pick" 2 ["pen", "some"] spPickV) (cShuf : Callee P w K mg base CX0 "_law_shuffled" 2 ["pen", "some"] (spShuf K)) : Callee P w K mg base CX0 "_law_book_planted" 4 ["pen", "tells"] (spPlant K) := by
  refine callee_of D scBookPlanted (fun _ _ _ _ _ _ us hl => match us, hl with | [_, _], _ => rfl) (fun vs H Q E h => ?_) (fun f cdv A outer s H vs Q E hG hr h => ?_)
  · obtain ⟨p, l, tv, ks, tl, n, rfl, _⟩ := h
    rfl
  · obtain ⟨p, l, tv, ks, tl, n, rfl, hP, hT, ok, tok, fin⟩ := h
    have hu : (A.deeper (PyProof.Rows.envOfC "_law_book_planted" (defScope sBookPlanted) s.heap.objs.size f cdv)).units + 64 < cLine := hr.units
    have hu1 : (A.deeper (PyProof.Rows.envOfC "_law_book_planted" (defScope sBookPlanted) s.heap.objs.size f cdv)).units + 1 < cLine := by omega
    have hu2 : (A.deeper (PyProof.Rows.envOfC "_law_book_planted" (defScope sBookPlanted) s.heap.objs.size f cdv)).units < cLine := by omega
    refine ⟨_, (pss_cons (ps_setLc (i := 2) (own := [("name", 3), ("places", 4)]) (g := (gTup K 2 (gCons (gName 3) (gCons (gName 4) gNil)))) (tt := tTest (tOp (rEqT0 K) (tVar 4) (tD K (dT [])))) (by rfl) scBookPlanted.nd rfl rfl (sw_true rfl rfl rfl (by decide +kernel)) (pi_tup (pv 1)) (blkOk_by (own := [("name", 3), ("places", 4)]) (N := ["pen", "tells", "bare", "name", "places", "one", "other", "a", "b", "some"]) (sc := defScope sBookPlanted) (by decide +kernel)) (fun _ _ _ _ _ => (by exact pg_tup rfl (by exact (pgs_cons (by exact pg_name (i := 3) scBookPlanted.nd rfl (Or.inl rfl)) (by exact (pgs_cons (by exact pg_name (i := 4) scBookPlanted.nd rfl (Or.inl rfl)) (by exact pgs_nil))))))) (fun _ _ _ _ _ => by exact pts_one (pt_cmpR (op_eqT0 hu) (pv 4) (pd_tup pds_nil) (nomark _))) (fun _ _ _ _ _ => by exact (pv 3)))
      (pss_cons (ps_if (pt_cmpR op_lt (pe_callB call_lenS (by rfl) B.len (by decide +kernel) (pa_cons (pv 2) pa_nil)) pe_int (nomark _)) (pss_one (ps_ret (pe_lst pa_nil))) pss_nil)
      (pss_cons (ps_asg (pe_slice sl_listS (pe_fn cShuf hG (hr.mono (by decide)) pass0 (pa_cons (pv 0) (pa_cons (pv 2) pa_nil))) po_none (po_some pe_int)) (pg_lst rfl (pgs_cons (pg_name (i := 5) scBookPlanted.nd rfl (Or.inl rfl)) (pgs_cons (pg_name (i := 6) scBookPlanted.nd rfl (Or.inl rfl)) pgs_nil))))
      (pss_cons (ps_par (i := 7) (j := 8) rfl scBookPlanted.nd rfl rfl (by decide) rfl rfl (pa_cons (pd_tup (pds_cons (pd_var (pv 5)) (pds_cons (pd_tup pds_nil) pds_nil))) (pa_cons (pd_tup (pds_cons (pd_var (pv 6)) (pds_cons (pd_tup pds_nil) pds_nil))) pa_nil)) (by rfl))
      (pss_cons (ps_set (i := 9) scBookPlanted.nd rfl (Or.inl rfl) (pe_lst (pa_cons (pd_lst (pds_cons (pd_tup (pds_cons (pd_str pe_str) (pds_cons (pd_var (pv 7)) (pds_cons (pd_tup (pds_cons (pd_cat2 (pd_tup (pds_cons (pd_str pe_str) pds_nil)) (pd_var (pv 8))) pds_nil)) pds_nil)))) (pds_cons (pd_tup (pds_cons (pd_str pe_str) (pds_cons (pd_var (pv 8)) (pds_cons (pd_tup (pds_cons (pd_cat2 (pd_tup (pds_cons (pd_str pe_str) pds_nil)) (pd_var (pv 7))) pds_nil)) pds_nil)))) pds_nil))) (pa_cons (pd_lst (pds_cons (pd_tup (pds_cons (pd_str pe_str) (pds_cons (pd_var (pv 7)) (pds_cons (pd_tup (pds_cons (pd_cat2 (pd_tup (pds_cons (pd_str pe_str) pds_nil)) (pd_var (pv 8))) pds_nil)) pds_nil)))) (pds_cons (pd_tup (pds_cons (pd_str pe_str) (pds_cons (pd_var (pv 8)) (pds_cons (pd_tup (pds_cons (pd_cat2 (pd_tup (pds_cons (pd_str pe_str) pds_nil)) (pd_var (pv 7))) pds_nil)) pds_nil)))) pds_nil))) (pa_cons (pd_lst (pds_cons (pd_tup (pds_cons (pd_str pe_str) (pds_cons (pd_var (pv 7)) (pds_cons (pd_tup (pds_cons (pd_cat2 (pd_tup (pds_cons (pd_str pe_str) pds_nil)) (pd_var (pv 7))) pds_nil)) pds_nil)))) pds_nil)) pa_nil)))))
      (pss_cons (ps_set (i := 9) scBookPlanted.nd rfl (Or.inl rfl) (pe_op op_cat (pv 9) (pe_lst (pa_cons (pd_lst (pds_cons (pd_tup (pds_cons (pd_str pe_str) (pds_cons (pd_var (pv 7)) (pds_cons (pd_tup pds_nil) pds_nil)))) (pds_cons (pd_tup (pds_cons (pd_str pe_str) (pds_cons (pd_var (pv 8)) (pds_cons (pd_tup (pds_cons (pd_cat2 (pd_tup (pds_cons (pd_str pe_str) pds_nil)) (pd_var (pv 7))) pds_nil)) pds_nil)))) pds_nil))) (pa_cons (pd_lst (pds_cons (pd_tup (pds_cons (pd_str pe_str) (pds_cons (pd_tup (pds_cons (pd_cat2 (pd_tup (pds_cons (pd_str pe_str) pds_nil)) (pd_var (pv 7))) (pds_cons (pd_cat2 (pd_tup (pds_cons (pd_str pe_str) pds_nil)) (pd_var (pv 8))) pds_nil))) pds_nil))) pds_nil)) (pa_cons (pd_lst (pds_cons (pd_tup (pds_cons (pd_str pe_str) (pds_cons (pd_var (pv 7)) (pds_cons (pd_tup pds_nil) pds_nil)))) (pds_cons (pd_tup (pds_cons (pd_str pe_str) (pds_cons (pd_var (pv 8)) (pds_cons (pd_tup (pds_cons (pd_cat2 (pd_tup (pds_cons (pd_str pe_str) pds_nil)) (pd_var (pv 7))) (pds_cons (pd_cat2 (pd_tup (pds_cons (pd_str pe_str) pds_nil)) (pd_var (pv 8))) pds_nil))) pds_nil)))) pds_nil))) pa_nil))))))
      (pss_one (ps_ret (pe_fn cPick hG (hr.mono (by decide)) pass0 (pa_cons (pv 0) (pa_cons (pv 9) pa_nil))))))))))), ?_⟩
    have two : 6 ≤ sizeLine := by decide
    obtain ⟨b1, xs1, rfl, sq1, t1⟩ := (show Tp K H tv (.tuple (kindsDs tl)) from hT).tup_inv
    have l1 : xs1.length = tl.length := by rw [t1.length, kindsDs, List.length_map]
    have l5 := tok.len
    refine ⟨_, rfl, b1, rfl, ⟨xs1, sq1⟩, fun D hD => ?_⟩
    refine lc_it (walk_tup (xs := xs1)) (LcN K D (Flt H D xs1.length (fun i => tl[i]?.bind pBare))) Flt.start ?_ ?_ ?_
    · rintro i H3 hi ⟨ds, ⟨_, x, _⟩, _⟩
      exact Tk.ext x (.new hD) _ _ sq1
    · rintro i x H3 H4 hi pv ⟨rfl, e⟩
      have x4 : Ext [D] H H4 := by
        obtain ⟨ds, ⟨_, x, _⟩, _⟩ := pv
        exact x
      obtain ⟨d, e2, tx⟩ := t1.getV e
      rw [kindsDs, List.getElem?_map] at e2
      obtain ⟨⟨nm, ps⟩, e3, rfl⟩ := Option.map_eq_some_iff.mp e2
      obtain ⟨b4, y1, y2, rfl, sq, t2, t3⟩ := tx.pair
      have e1 := t2.str_inv
      subst e1
      have k4 : Tk K H H4 := Tk.ext x4 (.new hD)
      have sh : ∀ d ∈ ps.map PyData.str, ShB 0 d := shStrs fun k hk => by
        obtain ⟨kd, hkd, q⟩ := List.mem_map.mp (tok.kind _ (List.mem_of_getElem? e3) k hk)
        rw [← q]
        exact kind_strOk _ (ok.name kd hkd)
      refine ⟨b4, _, rfl, k4 _ _ sq, rfl, _, _, rfl, _, _, rfl, rfl, rfl, _, rfl, [], _, .nil, rfl, fun z H5 s5 tz => ⟨_, 0, (t3.keep k4).same s5, tz, sh, by decide, _, rfl, ite2 (fun h => ?_) (fun h => ?_)⟩⟩
      · refine ⟨_, rfl, Flt.yes pv hi (by omega) s5 (.str nm) ?_⟩
        rw [e3]
        have h2 : ps = [] := List.map_eq_nil_iff.mp (of_decide_eq_true h)
        simp [pBare, h2]
      · refine Flt.no pv hi s5 ?_
        rw [e3]
        have h2 : ¬ ps = [] := fun z => h (by rw [z]; rfl)
        simp [pBare, h2]
    rintro H3 ⟨ds, ⟨e, x3, _⟩, lD⟩
    rw [l1, filter_range pBare tl, bare_map] at e
    subst e
    have s3 : Same H H3 := fun b o e => x3 b o e (by simpa using ne_of_none e hD)
    generalize hbr : (tl.filter fun t => decide (t.2 = [])).map (·.1) = br at lD
    have br_in : ∀ x ∈ br, (x, []) ∈ tl := fun x hx => by
      rw [← hbr] at hx
      obtain ⟨t, ht, rfl⟩ := List.mem_map.mp hx
      obtain ⟨h1, h2⟩ := List.mem_filter.mp ht
      have h3 := of_decide_eq_true h2
      rw [← h3]
      exact h1
    have br_len : br.length ≤ 5 := by
      rw [← hbr, List.length_map]
      exact Nat.le_trans (List.length_filter_le ..) l5
    refine ⟨_, rfl, _, _, rfl, lD.sq, _, _, rfl, rfl, _, rfl, ite2 (fun h => ?_) (fun h => ?_)⟩
    · refine ⟨by show 0 ≤ sizeLine; omega, fun q nq => ?_⟩
      have sq := s3.trans (Same.new (o := .lst []) nq)
      exact fin q [] _ (s3.free nq) (ls_new nq .nil) (fun f hf => nomatch hf) (Nat.zero_le _) ((hP.same sq).mono (by omega)) (But.of sq)
    have h2 : 2 ≤ br.length := by
      have h3 : ¬ (((br.map PyData.str).length : Int) < 2) := fun q => h (decide_eq_true q)
      rw [List.length_map] at h3
      omega
    refine ⟨_, rfl, _, rfl, p, l, .ref D, br.map .str, n + 1, rfl, (hP.same s3).mono (by rw [List.length_map]; omega), lD.sq, by rw [List.length_map]; omega, fun q es H4 pm nq lq hP4 bt4 => ?_⟩
    refine ⟨_, rfl, q, es, rfl, lq, fun q2 H5 nq2 s5 l5 => ?_⟩
    obtain ⟨ys, rfl, py⟩ := perm_map pm br rfl
    have hys := py.length_eq
    obtain ⟨o, ot, r, rfl⟩ : ∃ o ot r, ys = o :: ot :: r := by
      match ys, hys with
      | [], hys => simp at hys; omega
      | [o], hys => simp at hys; omega
      | o :: ot :: r, _ => exact ⟨o, ot, r, rfl⟩
    have mo : (o, []) ∈ tl := br_in o (py.mem_iff.mp (by simp))
    have mot : (ot, []) ∈ tl := br_in ot (py.mem_iff.mp (by simp))
    have ec : cutD ((o :: ot :: r).map PyData.str) none (some 2) = [PyData.str o, .str ot] := by
      have z := cutD_to (ds := (o :: ot :: r).map PyData.str) (k := 2) (by simp)
      exact z.trans (by simp)
    rw [ec] at l5
    obtain ⟨xs5, e5, t5⟩ := l5
    obtain ⟨v1, v2, rfl, t6, t7⟩ := t5.two
    have e6 := t6.str_inv
    have e7 := t7.str_inv
    subst e6 e7
    have bt5 : But p H H5 := ((But.of s3).trans bt4).trans (But.of s5)
    have hP5 := hP4.same s5
    refine ⟨q2, _, rfl, SqL.of e5, rfl, _, _, rfl, _, _, rfl, rfl, ?_⟩
    refine ⟨[none, none, none, none, none, some (.str o), some (.str ot)], (Atm.mk o []).d, .skip (.skip (.skip (.skip (.skip (.cons (.str _) (.cons (.str _) .nil)))))), rfl, fun za H6 s6 ta => ?_⟩
    refine ⟨[none, none, none, none, none, some (.str o), some (.str ot)], (Atm.mk ot []).d, .skip (.skip (.skip (.skip (.skip (.cons (.str _) (.cons (.str _) .nil)))))), rfl, fun zb H7 s7 tb => ⟨_, _, rfl, ?_⟩⟩
    have ta := ta.same s7
    generalize hA : Atm.mk o [] = A at ta
    generalize hB : Atm.mk ot [] = B at tb
    have env : ∀ {H' : Hp} {x0 x1 x2 x3 x4 x5 x6 : Option V} {r : L2.St}, Same H7 H' → EnvD K H' [none, none, none, none, none, none, none, some A.d, some B.d] (x0 :: x1 :: x2 :: x3 :: x4 :: x5 :: x6 :: some za :: some zb :: r) := fun s => .skip (.skip (.skip (.skip (.skip (.skip (.skip (.cons (ta.same s) (.cons (tb.same s) .nil))))))))
    have Γd : ∀ {H' : Hp}, True := True.intro
    have hA2 : A.d = .tuple [.str o, .tuple []] := by rw [← hA]; rfl
    have hB2 : B.d = .tuple [.str ot, .tuple []] := by rw [← hB]; rfl
    have aA : A.terms = [] ∧ (A.name, []) ∈ tl := by rw [← hA]; exact ⟨rfl, mo⟩
    have aB : B.terms = [] ∧ (B.name, []) ∈ tl := by rw [← hB]; exact ⟨rfl, mot⟩
    have bare : ∀ f : Fm, (∀ a ∈ f.atoms, a = A ∨ a = B) → (∀ p ∈ f.body, ∃ a, p = .so a ∨ p = .no a) → f.body.length ≤ 5 → (∀ n m b, f ≠ .cost n m b) → FmOk ks tl f := fun f h1 h2 h3 h4 =>
      fm_bare (fun a ha => (h1 a ha).elim (fun e => by rw [e]; exact aA) (fun e => by rw [e]; exact aB)) h2 h3 (fun n m b e => absurd e (h4 n m b))
    have f1 : FmOk ks tl (.rule A [.no B]) := bare _ (by simp [Fm.atoms, Fm.head, Fm.body, atomsIn, Pt.atom]) (by simp [Fm.body]) (by simp [Fm.body]) (by simp)
    have f2 : FmOk ks tl (.rule B [.no A]) := bare _ (by simp [Fm.atoms, Fm.head, Fm.body, atomsIn, Pt.atom]) (by simp [Fm.body]) (by simp [Fm.body]) (by simp)
    have f3 : FmOk ks tl (.rule A [.so B]) := bare _ (by simp [Fm.atoms, Fm.head, Fm.body, atomsIn, Pt.atom]) (by simp [Fm.body]) (by simp [Fm.body]) (by simp)
    have f4 : FmOk ks tl (.rule B [.so A]) := bare _ (by simp [Fm.atoms, Fm.head, Fm.body, atomsIn, Pt.atom]) (by simp [Fm.body]) (by simp [Fm.body]) (by simp)
    have f5 : FmOk ks tl (.rule A [.no A]) := bare _ (by simp [Fm.atoms, Fm.head, Fm.body, atomsIn, Pt.atom]) (by simp [Fm.body]) (by simp [Fm.body]) (by simp)
    have f6 : FmOk ks tl (.may A []) := bare _ (by simp [Fm.atoms, Fm.head, Fm.body, atomsIn, Pt.atom]) (by simp [Fm.body]) (by simp [Fm.body]) (by simp)
    have f7 : FmOk ks tl (.never [.so A, .no B]) := bare _ (by simp [Fm.atoms, Fm.head, Fm.body, atomsIn, Pt.atom]) (by simp [Fm.body]) (by simp [Fm.body]) (by simp)
    have f8 : FmOk ks tl (.rule A []) := bare _ (by simp [Fm.atoms, Fm.head, Fm.body, atomsIn, Pt.atom]) (by simp [Fm.body]) (by simp [Fm.body]) (by simp)
    have f9 : FmOk ks tl (.rule B [.so A, .no B]) := bare _ (by simp [Fm.atoms, Fm.head, Fm.body, atomsIn, Pt.atom]) (by simp [Fm.body]) (by simp [Fm.body]) (by simp)
    have eA : A = ⟨o, []⟩ := hA.symm
    have eB : B = ⟨ot, []⟩ := hB.symm
    have one : (2 : Nat) ≤ 100 ∧ (1 : Nat) ≤ 100 := by decide
    let Γ : List (Option PyData) := [none, none, none, none, none, none, none, some A.d, some B.d]
    refine ⟨Γ, [(Fm.rule A [.no B]).d, (Fm.rule B [.no A]).d], env (Same.refl _), by subst eA eB; rfl, by show 2 ≤ sizeLine; omega, fun m1 H8 nm1 s8 k1 => ?_⟩
    refine ⟨Γ, [(Fm.rule A [.so B]).d, (Fm.rule B [.so A]).d], env s8, by subst eA eB; rfl, by show 2 ≤ sizeLine; omega, fun m2 H9 nm2 s9 k2 => ?_⟩
    have s89 := s8.trans s9
    refine ⟨Γ, [(Fm.rule A [.no A]).d], env s89, by subst eA eB; rfl, by show 1 ≤ sizeLine; omega, fun m3 H10 nm3 s10 k3 => ⟨by show 3 ≤ sizeLine; omega, fun w1 nw1 => ?_⟩⟩
    have sw1 := Same.new (o := .lst [V.ref m1, .ref m2, .ref m3]) nw1
    have s810 := (s89.trans s10).trans sw1
    refine ⟨_, rfl, ?_⟩
    refine ⟨Γ, [(Fm.may A []).d, (Fm.rule B [.so A]).d], env s810, by subst eA eB; rfl, by show 2 ≤ sizeLine; omega, fun m4 H11 nm4 s11 k4 => ?_⟩
    have s811 := s810.trans s11
    refine ⟨Γ, [(Fm.never [.so A, .no B]).d], env s811, by subst eA eB; rfl, by show 1 ≤ sizeLine; omega, fun m5 H12 nm5 s12 k5 => ?_⟩
    have s812 := s811.trans s12
    refine ⟨Γ, [(Fm.rule A []).d, (Fm.rule B [.so A, .no B]).d], env s812, by subst eA eB; rfl, by show 2 ≤ sizeLine; omega, fun m6 H13 nm6 s13 k6 => ⟨by show 3 ≤ sizeLine; omega, fun w2 nw2 => ?_⟩⟩
    have sw2 := Same.new (o := .lst [V.ref m4, .ref m5, .ref m6]) nw2
    have t14 := ((s11.trans s12).trans s13).trans sw2
    refine ⟨w1, w2, [.ref m1, .ref m2, .ref m3], [.ref m4, .ref m5, .ref m6], rfl, rfl, t14 _ _ upd_same, upd_same, by show 3 + 3 ≤ sizeLine; omega, fun w3 nw3 => ?_⟩
    have sw3 := Same.new (o := .lst ([V.ref m1, .ref m2, .ref m3] ++ [.ref m4, .ref m5, .ref m6])) nw3
    have s714 := (s810.trans t14).trans sw3
    have hP14 := ((hP5.same s6).same s7).same s714
    have bt14 : But p H _ := (((bt5.trans (But.of s6)).trans (But.of s7)).trans (But.of s714))
    refine ⟨_, rfl, _, rfl, p, l, w3, _, n, rfl, hP14.mono (by omega), upd_same, (fun z => nomatch z), (by show 6 ≤ 1000; omega), fun x H15 hx hP15 bt15 => ?_⟩
    have tail1 := (((s9.trans s10).trans sw1).trans t14).trans sw3
    have go : ∀ (m : Addr) (fs : List Fm) (Hm : Hp), LsAt K Hm m (fs.map Fm.d) → Same Hm _ → H m = none → (∀ f ∈ fs, FmOk ks tl f) → fs.length ≤ 2 → Q (.ref m) H15 := fun m fs Hm lm sm nm hf hl => by
      refine fin m fs H15 nm ((lm.same sm).ext (Ext.but bt15) (.pen hP14 .nil) ?_) hf hl hP15 (bt14.trans bt15)
      simpa using (hP.ne nm).1
    have free : ∀ {Hm : Hp} {m : Addr}, Same H7 Hm → Hm m = none → H m = none := fun sm nm => ((bt5.trans (But.of s6)).trans (But.of (s7.trans sm))).back (((hP5.same s6).same s7).same sm) nm
    have all2 : ∀ {a b : Fm}, FmOk ks tl a → FmOk ks tl b → ∀ f ∈ [a, b], FmOk ks tl f := fun ha hb f hf => (so_mem hf).elim (fun e => by rw [e]; exact ha) (fun e => by rw [e]; exact hb)
    have all1 : ∀ {a : Fm}, FmOk ks tl a → ∀ f ∈ [a], FmOk ks tl f := fun ha f hf => by rw [List.mem_singleton.mp hf]; exact ha
    have hx6 : x = .ref m1 ∨ x = .ref m2 ∨ x = .ref m3 ∨ x = .ref m4 ∨ x = .ref m5 ∨ x = .ref m6 := by simpa using hx
    have g4 := (s12.trans s13).trans (sw2.trans sw3)
    rcases hx6 with rfl | rfl | rfl | rfl | rfl | rfl
    · exact go m1 [_, _] H8 k1 tail1 (free (Same.refl _) nm1) (all2 f1 f2) (by simp)
    · exact go m2 [_, _] H9 k2 (((s10.trans sw1).trans t14).trans sw3) (free s8 nm2) (all2 f3 f4) (by simp)
    · exact go m3 [_] H10 k3 ((sw1.trans t14).trans sw3) (free s89 nm3) (all1 f5) (by simp)
    · exact go m4 [_, _] H11 k4 g4 (free s810 nm4) (all2 f6 f4) (by simp)
    · exact go m5 [_] H12 k5 (s13.trans (sw2.trans sw3)) (free s811 nm5) (all1 f7) (by simp)
    · exact go m6 [_, _] H13 k6 (sw2.trans sw3) (free s812 nm6) (all2 f8 f9) (by simp)
end

end Og

set_option Elab.async false
set_option linter.all false
set_option maxRecDepth 100000
set_option maxHeartbeats 8000000
namespace Og
open PySem L2
def spHead (K : PySem.W.Frag) : Sp := fun vs H Q _ => ∃ (p l : Addr) (n : Nat), vs = [.ref p] ∧ PenAt H p l (n + 40) ∧
  ∀ (q : Addr) (kv tv : V) (ks tl : Kds) (H' : Hp), SqT K H' q [kv, tv] → Pk K H' kv (kindsDs ks) → Tp K H' tv (kindsD tl) → KdsOk ks → TlsOk ks tl → PenAt H' p l n → But p H H' → Q (.ref q) H'
theorem mem_ints {xs : List Nat} {d : PyData} (h : d ∈ xs.map (fun k => PyData.int (k : Nat))) : ∃ k ∈ xs, d = .int (k : Nat) := mem_nats h
theorem size_snoc {ks : Kds} {k : Str} : ∀ {ps : List Str}, sizeAt ks (ps ++ [k]) = sizeAt ks ps * manyOf ks k
  | [] => by
    show 1 * manyOf ks k = 1 * manyOf ks k
    rfl
  | p :: ps => by
    show sizeAt ks (ps ++ [k]) * manyOf ks p = sizeAt ks ps * manyOf ks p * manyOf ks k
    rw [size_snoc, Nat.mul_assoc, Nat.mul_comm (manyOf ks k), ← Nat.mul_assoc]
theorem many_of {ks : Kds} {k : Str × List Str} (nd : (ks.map (·.1)).Nodup) (h : k ∈ ks) : manyOf ks k.1 = k.2.length := by
  unfold manyOf
  rw [mem_lookup (x := k.1) (y := k.2) nd h]
  rfl
theorem sizeAll_snoc {ks tl : Kds} {t : Str × List Str} : sizeAll ks (tl ++ [t]) = sizeAll ks tl + sizeAt ks t.2 := by
  unfold sizeAll
  rw [List.map_append, List.sum_append]
  simp
theorem kindsDs_snoc {ks : Kds} {k : Str × List Str} : kindsDs (ks ++ [k]) = kindsDs ks ++ [.tuple [.str k.1, strsD k.2]] := by
  unfold kindsDs
  rw [List.map_append]
  rfl
theorem take_succ_map {α : Type} {xs : List α} {i : Nat} {x : α} (h : xs[i]? = some x) : xs.take (i + 1) = xs.take i ++ [x] := by
  rw [List.take_add_one, h]
  rfl
/-- kinds as far as they are made -/
structure KdSt (K : PySem.W.Frag) (H : Hp) (nms : List Str) (i : Nat) (ks : Kds) (its : List Str) (kv : V) (qi : Addr) : Prop where
  tp : Tp K H kv (kindsD ks)
  pk : ks ≠ [] → Pk K H kv (kindsDs ks)
  ls : LsAt K H qi (its.map .str)
  nm : ks.map (·.1) = nms.take i
  pm : (ks.flatMap (·.2) ++ its).Perm itemNames
  sz : its.length + 3 * i ≥ 7
  so : ∀ k ∈ ks, k.2 ≠ [] ∧ k.2.length ≤ 3
theorem KdSt.ext {K : PySem.W.Frag} {H H' : Hp} {nms : List Str} {i : Nat} {ks : Kds} {its : List Str} {kv : V} {qi : Addr} {S : List Addr} (h : KdSt K H nms i ks its kv qi) (x : Ext S H H') (n : NoTup H S) (hq : qi ∉ S) : KdSt K H' nms i ks its kv qi :=
  ⟨h.tp.keep (.ext x n), fun e => (h.pk e).ext x n, h.ls.ext x n hq, h.nm, h.pm, h.sz, h.so⟩
theorem LsAt.ne_pen {K : PySem.W.Frag} {H : Hp} {q p l : Addr} {n : Nat} {ds : List PyData} (h : LsAt K H q ds) (hP : PenAt H p l n) : q ∉ [p] := by
  obtain ⟨kvs, z⟩ := hP.some
  obtain ⟨xs, e, _⟩ := h
  simpa using ne_of e z (by intro q; cases q)
section
variable {P : Program} {w : World} {K : PySem.W.Frag} {mg : Str → Option Value} {base : Heap}
theorem scBookHead : FnScope ["pen", "kinds", "items", "name", "many", "tells", "left", "places", "size", "lap", "kind"] ["pen"] (defScope sBookHead) := ⟨rfl, rfl, rfl, by decide +kernel, rfl, by decide +kernel, by decide +kernel⟩
theorem ok_BookHead (D : DefAt K mg "_law_book_head" sBookHead) (B : Blt mg) (cDraw : Callee P w K mg base CX0 "_law_draw" 1 ["pen", "many"] spDraw) (cPick : Callee P w K mg base CX0 "_law_pick" 2 ["pen", "some"] (spPick K)) (cShuf : Callee P w K mg base CX0 "_law_shuffled" 2 ["pen", "some"] (spShuf K)) : Callee P w K mg base CX0 "_law_book_head" 4 ["pen"] (spHead K) := by
  refine callee_of D scBookHead (fun _ _ _ _ _ _ us hl => match us, hl with | [_], _ => rfl) (fun vs H Q E h => ?_) (fun f cdv A outer s H vs Q E hG hr h => ?_)
  · obtain ⟨p, l, n, rfl, _⟩ := h
    rfl
  · obtain ⟨p, l, n, rfl, hP, fin⟩ := h
    have hu : (A.deeper (PyProof.Rows.envOfC "_law_book_head" (defScope sBookHead) s.heap.objs.size f cdv)).units + 64 < cLine := hr.units
    have hu1 : (A.deeper (PyProof.Rows.envOfC "_law_book_head" (defScope sBookHead) s.heap.objs.size f cdv)).units + 1 < cLine := by omega
    have hu2 : (A.deeper (PyProof.Rows.envOfC "_law_book_head" (defScope sBookHead) s.heap.objs.size f cdv)).units < cLine := by omega
    refine ⟨_, (pss_cons (ps_par (i := 1) (j := 2) rfl scBookHead.nd rfl rfl (by decide) rfl rfl (pa_cons (pe_tup pa_nil) (pa_cons (pe_fn cShuf hG (hr.mono (by decide)) pass0 (pa_cons (pv 0) (pa_cons (pe_lst (pa_cons pe_str (pa_cons pe_str (pa_cons pe_str (pa_cons pe_str (pa_cons pe_str (pa_cons pe_str (pa_cons pe_str pa_nil)))))))) pa_nil))) pa_nil)) (by rfl))
      (pss_cons (ps_for PassesOwn.never rfl (pi_list (pe_slice sl_listS (pe_fn cShuf hG (hr.mono (by decide)) pass0 (pa_cons (pv 0) (pa_cons (pe_lst (pa_cons pe_str (pa_cons pe_str (pa_cons pe_str pa_nil)))) pa_nil))) po_none (po_some (pe_fn cPick hG (hr.mono (by decide)) pass0 (pa_cons (pv 0) (pa_cons (pe_lst (pa_cons pe_int (pa_cons pe_int (pa_cons pe_int pa_nil)))) pa_nil)))))) (pg_name (i := 3) scBookHead.nd rfl (Or.inl rfl)) (pss_cons (ps_set (i := 4) scBookHead.nd rfl (Or.inl rfl) (pe_fn cPick hG (hr.mono (by decide)) pass0 (pa_cons (pv 0) (pa_cons (pe_lst (pa_cons pe_int (pa_cons pe_int (pa_cons pe_int (pa_cons pe_int pa_nil))))) pa_nil))))
      (pss_one (ps_par (i := 1) (j := 2) rfl scBookHead.nd rfl rfl (by decide) rfl rfl (pa_cons (pe_op op_catP (pv 1) (pe_tupP (pa_cons (pe_tup (pa_cons (pv 3) (pa_cons (pe_callTy call_tupS (by rfl) B.tuple (by decide +kernel) (pa_cons (pe_slice sl_listS (pv 2) po_none (po_some (pv 4))) pa_nil)) pa_nil))) pa_nil))) (pa_cons (pe_slice sl_listS (pv 2) (po_some (pv 4)) po_none) pa_nil)) (by rfl)))))
      (pss_cons (ps_asg (pe_tup (pa_cons (pe_tup pa_nil) (pa_cons pe_int pa_nil))) (pg_tup rfl (pgs_cons (pg_name (i := 5) scBookHead.nd rfl (Or.inl rfl)) (pgs_cons (pg_name (i := 6) scBookHead.nd rfl (Or.inl rfl)) pgs_nil))))
      (pss_cons (ps_for PassesOwn.never rfl (pi_list (pe_slice sl_listS (pe_fn cShuf hG (hr.mono (by decide)) pass0 (pa_cons (pv 0) (pa_cons (pe_lst (pa_cons pe_str (pa_cons pe_str (pa_cons pe_str (pa_cons pe_str (pa_cons pe_str (pa_cons pe_str (pa_cons pe_str pa_nil)))))))) pa_nil))) po_none (po_some (pe_op op_add pe_int (pe_fn cDraw hG (hr.mono (by decide)) pass0 (pa_cons (pv 0) (pa_cons pe_int pa_nil))))))) (pg_name (i := 3) scBookHead.nd rfl (Or.inl rfl)) (pss_cons (ps_asg (pe_tup (pa_cons (pe_tup pa_nil) (pa_cons pe_int pa_nil))) (pg_tup rfl (pgs_cons (pg_name (i := 7) scBookHead.nd rfl (Or.inl rfl)) (pgs_cons (pg_name (i := 8) scBookHead.nd rfl (Or.inl rfl)) pgs_nil))))
      (pss_cons (ps_for PassesOwn.never rfl (pi_range1 rfl B.range (pa_cons (pe_fn cPick hG (hr.mono (by decide)) pass0 (pa_cons (pv 0) (pa_cons (pe_lst (pa_cons pe_int (pa_cons pe_int (pa_cons pe_int (pa_cons pe_int (pa_cons pe_int (pa_cons pe_int pa_nil))))))) pa_nil))) pa_nil)) (pg_name (i := 9) scBookHead.nd rfl (Or.inl rfl)) (pss_cons (ps_set (i := 10) scBookHead.nd rfl (Or.inl rfl) (pe_fn cPick hG (hr.mono (by decide)) pass0 (pa_cons (pv 0) (pa_cons (pv 1) pa_nil))))
      (pss_one (ps_if (pt_cmpR op_le (pe_op op_mul (pv 8) (pe_callB call_lenS (by rfl) B.len (by decide +kernel) (pa_cons (pe_ix ix_sq (pv 10) pe_int (fun _ _ => rfl)) pa_nil))) (pv 6) (nomark _)) (pss_one (ps_par (i := 7) (j := 8) rfl scBookHead.nd rfl rfl (by decide) rfl rfl (pa_cons (pe_op op_catS (pv 7) (pe_tup (pa_cons (pe_ix ix_sq (pv 10) pe_int (fun _ _ => rfl)) pa_nil))) (pa_cons (pe_op op_mul (pv 8) (pe_callB call_lenS (by rfl) B.len (by decide +kernel) (pa_cons (pe_ix ix_sq (pv 10) pe_int (fun _ _ => rfl)) pa_nil))) pa_nil)) (by rfl))) pss_nil))))
      (pss_one (ps_if (pt_cmpR op_le (pv 8) (pv 6) (nomark _)) (pss_one (ps_par (i := 5) (j := 6) rfl scBookHead.nd rfl rfl (by decide) rfl rfl (pa_cons (pe_op op_catS (pv 5) (pe_tup (pa_cons (pe_tup (pa_cons (pv 3) (pa_cons (pv 7) pa_nil))) pa_nil))) (pa_cons (pe_op op_sub (pv 6) (pv 8)) pa_nil)) (by rfl))) pss_nil)))))
      (pss_one (ps_ret (pe_tup (pa_cons (pv 1) (pa_cons (pv 5) pa_nil))))))))), ?_⟩
    have two : 20 ≤ sizeLine := by decide
    refine ⟨by show 0 ≤ sizeLine; omega, fun q0 n0 => ?_⟩
    have s0 := Same.new (o := .tup []) n0
    refine ⟨_, rfl, by show 7 ≤ sizeLine; omega, fun q1 n1 => ?_⟩
    have s1 := Same.new (o := .lst (itemNames.map V.str)) n1
    refine ⟨p, l, .ref q1, itemNames.map .str, n + 33, rfl, (hP.same s0).same s1, LsAt.sq ⟨_, upd_same, tpAll_strs itemNames⟩, (by decide), fun q2 es H2 pm nq2 l2 hP2 bt2 => ⟨_, _, rfl, ?_⟩⟩
    obtain ⟨its, rfl, pits⟩ := perm_map pm itemNames rfl
    have b02 : But p H H2 := (But.of (s0.trans s1)).trans bt2
    have t0 : Tp K H2 (.ref q0) (kindsD []) := ((tp_new n0 .nil).same s1).keep (.but bt2 ((hP.same s0).same s1))
    refine ⟨_, rfl, by show 3 ≤ sizeLine; omega, fun q3 n3 => ?_⟩
    have s3 := Same.new (o := .lst (kindNames.map V.str)) n3
    refine ⟨p, l, .ref q3, kindNames.map .str, n + 30, rfl, hP2.same s3, LsAt.sq ⟨_, upd_same, tpAll_strs kindNames⟩, (by decide), fun q4 es H4 pm nq4 l4 hP4 bt4 => ?_⟩
    obtain ⟨nms, rfl, pn⟩ := perm_map pm kindNames rfl
    have ln : nms.length = 3 := pn.length_eq
    have nnd : nms.Nodup := pn.nodup_iff.mpr (by decide +kernel)
    refine ⟨_, rfl, by show 3 ≤ sizeLine; omega, fun q5 n5 => ?_⟩
    have s5 := Same.new (o := .lst [V.int 1, .int 1, .int 2]) n5
    have l45 := l4.same s5
    refine ⟨p, l, .ref q5, ([1, 1, 2] : List Nat).map (fun k => PyData.int (k : Nat)), n + 29, rfl, hP4.same s5, LsAt.sq ⟨_, upd_same, .cons (.int _) (.cons (.int _) (.cons (.int _) .nil))⟩, (fun z => nomatch z), (by decide), fun v d H6 hd tv hP6 bt6 => ?_⟩
    obtain ⟨j, hj, rfl⟩ := mem_ints hd
    have hj2 : 1 ≤ j ∧ j ≤ 2 := (show ∀ k ∈ ([1, 1, 2] : List Nat), 1 ≤ k ∧ k ≤ 2 by decide) j hj
    have ev := tv.int_inv
    subst ev
    have l6 := l45.ext (Ext.but bt6) (.pen (hP4.same s5) .nil) (l45.ne_pen (hP4.same s5))
    refine ⟨_, rfl, q4, _, rfl, l6, fun q7 H7 nq7 s7 l7 => ?_⟩
    rw [cutD_to (by rw [List.length_map]; omega), ← List.map_take] at l7
    have b27 : But p H2 H7 := ((((But.of s3).trans bt4).trans (But.of s5)).trans bt6).trans (But.of s7)
    have b07 := b02.trans b27
    have hP7 := hP6.same s7
    have st0 : KdSt K H2 nms 0 [] its (.ref q0) q2 := ⟨t0, fun z => absurd rfl z, l2, rfl, pits, by have := pits.length_eq; rw [this]; decide, fun k hk => nomatch hk⟩
    have st7 := st0.ext (Ext.but b27) (.pen hP2 .nil) (l2.ne_pen hP2)
    obtain ⟨xs7, e7, t7⟩ := l7
    have ex7 := TpAll.strs t7
    subst ex7
    refine ⟨q7, rfl, ⟨_, SqL.of e7⟩, ?_⟩
    have lt7 : ((nms.take j).map V.str).length = j := by rw [List.length_map, List.length_take]; omega
    refine for_list (K := K) (a := q7) (xs := (nms.take j).map V.str) (fun i σ' H' => ∃ (ks : Kds) (its : List Str) (kv : V) (qi : Addr) (nv mv : Option V), σ' = [some (.ref p), some kv, some (.ref qi), nv, mv, none, none, none, none, none, none] ∧ KdSt K H' nms i ks its kv qi ∧ PenAt H' p l (n + 29 - i) ∧ Ext [p] H7 H' ∧ i ≤ j) ?_ ?_ ?_ ?_
    · exact ⟨[], its, _, q2, _, _, rfl, st7, hP7, Ext.refl _, Nat.zero_le _⟩
    · rintro i σ' H' hi ⟨ks, its, kv, qi, nv, mv, rfl, st, hP', x', _⟩
      exact SqL.of (x' _ _ e7 (LsAt.ne_pen (K := K) ⟨_, e7, tpAll_strs _⟩ hP7))
    · rintro i x σ' H' hi ⟨ks, its, kv, qi, nv, mv, rfl, st, hP', x', hij⟩
      rw [List.getElem?_map] at hi
      obtain ⟨nm, h2i, rfl⟩ := Option.map_eq_some_iff.mp hi
      have hij2 : i < j := by
        have z := (List.getElem?_eq_some_iff.mp h2i).1
        rw [List.length_take] at z
        omega
      have hnm : nms[i]? = some nm := by
        rw [List.getElem?_take_of_lt hij2] at h2i
        exact h2i
      refine ⟨_, rfl, by show 4 ≤ sizeLine; omega, fun q8 n8 => ?_⟩
      have s8 := Same.new (o := .lst [V.int 1, .int 2, .int 2, .int 3]) n8
      refine ⟨p, l, .ref q8, ([1, 2, 2, 3] : List Nat).map (fun k => PyData.int (k : Nat)), n + 29 - (i + 1), rfl, (hP'.same s8).mono (by omega), LsAt.sq ⟨_, upd_same, .cons (.int _) (.cons (.int _) (.cons (.int _) (.cons (.int _) .nil)))⟩, (fun z => nomatch z), (by decide), fun v d H9 hd tv hP9 bt9 => ?_⟩
      obtain ⟨m, hm, rfl⟩ := mem_ints hd
      have hm2 : 1 ≤ m ∧ m ≤ 3 := (show ∀ k ∈ ([1, 2, 2, 3] : List Nat), 1 ≤ k ∧ k ≤ 3 by decide) m hm
      have ev := tv.int_inv
      subst ev
      have b9 : But p H' H9 := (But.of s8).trans bt9
      have st9 := st.ext (Ext.but b9) (.pen hP' .nil) (st.ls.ne_pen hP')
      have sz := st.sz
      refine ⟨_, rfl, _, rfl, _, rfl, _, rfl, _, rfl, qi, _, rfl, st9.ls, fun q10 H10 nq10 s10 l10 => ?_⟩
      rw [cutD_to (by rw [List.length_map]; omega), ← List.map_take] at l10
      refine ⟨_, _, rfl, l10.sq, fun z H11 s11 t11 => ⟨by show 2 ≤ sizeLine; omega, fun q12 n12 => ⟨by show 1 ≤ sizeLine; omega, fun q13 o13 n13 hd13 => ?_⟩⟩⟩
      have s12 := Same.new (o := .tup [V.str nm, z]) n12
      have s13 := Same.new (o := .frz o13 (.tup [V.ref q12])) n13
      have t12 : Tp K _ (.ref q12) (.tuple [.str nm, strsD (its.take m)]) := tp_new n12 (.cons (.str _) (.cons t11 .nil))
      have pk13 : Pk K (upd (upd H11 q12 (.tup [V.str nm, z])) q13 (.frz o13 (.tup [V.ref q12]))) (.ref q13) [.tuple [.str nm, strsD (its.take m)]] := ⟨q13, _, rfl, ⟨o13, upd_same, hd13⟩, .one (t12.same s13)⟩
      have s913 := ((s10.trans s11).trans s12).trans s13
      have lks : ks.length ≤ 2 := by
        have z := congrArg List.length st.nm
        rw [List.length_map, List.length_take] at z
        omega
      refine ⟨kindsDs ks, _, st9.tp.same s913, pk13, (fun z => nomatch z), by rw [kindsDs, List.length_map]; show _ + 1 ≤ sizeLine; omega, fun z6 H14 s14 pk14 => ?_⟩
      have s914 := s913.trans s14
      refine ⟨_, rfl, _, rfl, _, rfl, qi, _, rfl, st9.ls.same s914, fun q15 H15 nq15 s15 l15 => ⟨_, _, rfl, ?_⟩⟩
      rw [cutD_from (by rw [List.length_map]; omega), ← List.map_drop] at l15
      have pk15 := pk14.same s15
      rw [← kindsDs_snoc (k := (nm, its.take m))] at pk15
      refine ⟨ks ++ [(nm, its.take m)], its.drop m, z6, q15, _, _, rfl, ⟨pk15.tp, fun _ => pk15, l15, ?_, ?_, ?_, ?_⟩, (hP9.same s914).same s15, ((x'.trans (Ext.but b9)).trans (.of s914)).trans (.of s15), by omega⟩
      · rw [List.map_append, st.nm, take_succ_map hnm]
        rfl
      · rw [List.flatMap_append, List.append_assoc]
        have e : (List.flatMap (fun x : Str × List Str => x.2) [(nm, its.take m)]) ++ its.drop m = its := by
          show (its.take m ++ []) ++ its.drop m = its
          rw [List.append_nil, List.take_append_drop]
        rw [e]
        exact st.pm
      · rw [List.length_drop]
        omega
      · intro k hk
        rcases List.mem_append.mp hk with hk | hk
        · exact st.so k hk
        · rw [List.mem_singleton.mp hk]
          have z : (its.take m).length = m := by rw [List.length_take]; omega
          refine ⟨fun e => ?_, by show (its.take m).length ≤ 3; omega⟩
          rw [show its.take m = [] from e] at z
          simp at z
          omega
    rintro σ8 H8 ⟨ks, its8, kv, qi, nv, mv, rfl, st, hP8, x8, _⟩
    rw [lt7] at st hP8
    have ksl : ks.length = j := by
      have z := congrArg List.length st.nm
      rw [List.length_map, List.length_take] at z
      omega
    have kne : ks ≠ [] := fun z => by rw [z] at ksl; simp at ksl; omega
    have pk8 := st.pk kne
    have knd : (ks.map (·.1)).Nodup := by
      rw [st.nm]
      exact List.Sublist.nodup (List.take_sublist _ _) nnd
    have ind : (ks.flatMap (·.2) ++ its8).Nodup := st.pm.nodup_iff.mpr (by decide +kernel)
    have kok : KdsOk ks := by
      refine ⟨kne, by omega, knd, fun k hk => ?_, st.so, (List.nodup_append.mp ind).1, fun k hk i hi => ?_⟩
      · refine pn.mem_iff.mp (List.mem_of_mem_take (i := j) ?_)
        rw [← st.nm]
        exact List.mem_map.mpr ⟨k, hk, rfl⟩
      · exact st.pm.mem_iff.mp (List.mem_append_left _ (List.mem_flatMap.mpr ⟨k, hk, hi⟩))
    have b08 : But p H H8 := b07.trans (.ext x8)
    have hP8 := hP8.mono (m := n + 27) (by omega)
    refine ⟨by show 0 ≤ sizeLine; omega, fun r1 m1 => ⟨by show 2 ≤ sizeLine; omega, fun r2 m2 => ⟨r2, _, rfl, SqT.of upd_same, rfl, _, _, rfl, _, _, rfl, rfl, ?_⟩⟩⟩
    have u12 := (Same.new (o := .tup []) m1).trans (Same.new (o := .tup [V.ref r1, .int 8]) m2)
    have tt : Tp K _ (.ref r1) (kindsD []) := (tp_new m1 .nil).same (Same.new (o := .tup [V.ref r1, .int 8]) m2)
    generalize hH9 : upd (upd H8 r1 (.tup [])) r2 (.tup [V.ref r1, .int 8]) = H9 at u12 tt
    have hP9 := hP8.same u12
    refine ⟨_, rfl, by show 7 ≤ sizeLine; omega, fun r3 m3 => ?_⟩
    have u3 := Same.new (o := .lst (tellNames.map V.str)) m3
    refine ⟨p, l, .ref r3, tellNames.map .str, n + 20, rfl, hP9.same u3, LsAt.sq ⟨_, upd_same, tpAll_strs tellNames⟩, (by decide), fun r4 es H10 pm nr4 l10 hP10 bt10 => ?_⟩
    obtain ⟨tns, rfl, ptn⟩ := perm_map pm tellNames rfl
    have ltn : tns.length = 7 := ptn.length_eq
    have tnd : tns.Nodup := ptn.nodup_iff.mpr (by decide +kernel)
    refine ⟨_, rfl, p, l, 4, n + 19, rfl, hP10, by decide, by decide, fun r H11 r0 r1' hP11 bt11 => ?_⟩
    obtain ⟨jt, rfl⟩ : ∃ k : Nat, r = (k : Int) := ⟨r.toNat, by omega⟩
    have hjt : jt < 4 := by omega
    have l11 := l10.ext (Ext.but bt11) (.pen hP10 .nil) (l10.ne_pen hP10)
    refine ⟨_, _, rfl, rfl, _, rfl, r4, _, rfl, l11, fun r5 H12 nr5 s12 l12 => ?_⟩
    have ec : cutD (tns.map PyData.str) none (some ((2 : Int) + (jt : Nat))) = (tns.take (2 + jt)).map .str := by
      have z := cutD_to (ds := tns.map PyData.str) (k := 2 + jt) (by rw [List.length_map]; omega)
      rw [← List.map_take] at z
      exact z
    rw [ec] at l12
    have b912 : But p H9 H12 := (((But.of u3).trans bt10).trans bt11).trans (But.of s12)
    have hP12 := hP11.same s12
    have b012 : But p H H12 := (b08.trans (But.of u12)).trans b912
    have pk12 := (pk8.same u12).ext (Ext.but b912) (.pen hP9 .nil)
    have tt12 := tt.keep (.but b912 hP9)
    obtain ⟨xs12, e12, t12⟩ := l12
    have ex12 := TpAll.strs t12
    subst ex12
    refine ⟨r5, rfl, ⟨_, SqL.of e12⟩, ?_⟩
    have lt12 : ((tns.take (2 + jt)).map V.str).length = 2 + jt := by rw [List.length_map, List.length_take]; omega
    have nt12 : NoTup H12 [p] := .pen hP12 .nil
    refine for_list (K := K) (a := r5) (xs := (tns.take (2 + jt)).map V.str) (fun i σ' H' => ∃ (tl : Kds) (left : Nat) (tv : V) (v2 v3 v4 v7 v8 v9 v10 : Option V), σ' = [some (.ref p), some kv, v2, v3, v4, some tv, some (.int left), v7, v8, v9, v10] ∧ Tp K H' tv (kindsD tl) ∧ (tl.map (·.1)).Sublist (tns.take i) ∧
      (∀ t ∈ tl, t.2.length ≤ 2 ∧ ∀ k ∈ t.2, k ∈ ks.map (·.1)) ∧ left + sizeAll ks tl = 8 ∧ (tl = [] → i = 0) ∧ PenAt H' p l (n + 4 + 3 * (5 - i)) ∧ Ext [p] H12 H' ∧ i ≤ 2 + jt) ?_ ?_ ?_ ?_
    · exact ⟨[], 8, .ref r1, _, _, _, _, _, _, _, rfl, tt12, by simp, (fun t ht => nomatch ht), rfl, fun _ => rfl, hP12, Ext.refl _, Nat.zero_le _⟩
    · rintro i σ' H' hi ⟨tl, left, tv, v2, v3, v4, v7, v8, v9, v10, rfl, _, _, _, _, _, _, x', _⟩
      exact SqL.of (x' _ _ e12 (LsAt.ne_pen (K := K) ⟨_, e12, tpAll_strs _⟩ hP12))
    · rintro i x σ' H' hi ⟨tl, left, tv, v2, v3, v4, v7, v8, v9, v10, rfl, ttl, sub, tks, hleft, hne, hP', x', hij⟩
      rw [List.getElem?_map] at hi
      obtain ⟨nm, h2i, rfl⟩ := Option.map_eq_some_iff.mp hi
      have hij2 : i < 2 + jt := by
        have z := (List.getElem?_eq_some_iff.mp h2i).1
        rw [List.length_take] at z
        omega
      rw [List.getElem?_take_of_lt hij2] at h2i
      refine ⟨by show 0 ≤ sizeLine; omega, fun k1 o1 => ⟨by show 2 ≤ sizeLine; omega, fun k2 o2 => ⟨k2, _, rfl, SqT.of upd_same, rfl, _, _, rfl, _, _, rfl, rfl, ?_⟩⟩⟩
      have w12 := (Same.new (o := .tup []) o1).trans (Same.new (o := .tup [V.ref k1, .int 1]) o2)
      have tps : Tp K _ (.ref k1) (strsD []) := (tp_new o1 .nil).same (Same.new (o := .tup [V.ref k1, .int 1]) o2)
      generalize hH13 : upd (upd H' k1 (.tup [])) k2 (.tup [V.ref k1, .int 1]) = H13 at w12 tps
      refine ⟨_, rfl, by show 6 ≤ sizeLine; omega, fun k3 o3 => ?_⟩
      have w3 := Same.new (o := .lst [V.int 0, .int 0, .int 0, .int 1, .int 1, .int 2]) o3
      refine ⟨p, l, .ref k3, ([0, 0, 0, 1, 1, 2] : List Nat).map (fun k => PyData.int (k : Nat)), n + 4 + 3 * (5 - (i + 1)) + 2, rfl, ((hP'.same w12).same w3).mono (by omega), LsAt.sq ⟨_, upd_same, .cons (.int _) (.cons (.int _) (.cons (.int _) (.cons (.int _) (.cons (.int _) (.cons (.int _) .nil)))))⟩, (fun z => nomatch z), (by decide), fun v d H14 hd tv' hP14 bt14 => ?_⟩
      obtain ⟨lp, hlp, rfl⟩ := mem_ints hd
      have hlp2 : lp ≤ 2 := (show ∀ k ∈ ([0, 0, 0, 1, 1, 2] : List Nat), k ≤ 2 by decide) lp hlp
      have ev := tv'.int_inv
      subst ev
      have b1314 : But p H' H14 := ((But.of w12).trans (But.of w3)).trans bt14
      have k1314 : Tk K H13 H14 := .but ((But.of w3).trans bt14) (hP'.same w12)
      have ttl14 := ttl.keep (.but b1314 hP')
      refine ⟨_, rfl, by omega, by omega, ?_⟩
      refine for_range (lo := 0) (n := lp) (fun li σ2 H2 => ∃ (ps : List Str) (pv : V) (sz : Nat) (v9 v10 : Option V), σ2 = [some (.ref p), some kv, v2, some (.str nm), v4, some tv, some (.int left), some pv, some (.int sz), v9, v10] ∧ Tp K H2 pv (strsD ps) ∧ sz = sizeAt ks ps ∧ ps.length ≤ li ∧ (∀ k ∈ ps, k ∈ ks.map (·.1)) ∧ sz ≤ 8 ∧ (1 ≤ left → sz ≤ left) ∧ PenAt H2 p l (n + 4 + 3 * (5 - (i + 1)) + (2 - li)) ∧ Ext [p] H14 H2) ?_ ?_ ?_
      · exact ⟨[], .ref k1, 1, _, _, rfl, tps.keep k1314, rfl, Nat.le_refl _, (fun k hk => nomatch hk), by decide, fun h => h, hP14, Ext.refl _⟩
      · rintro li σ2 H2 hli ⟨ps, pv, sz, v9, v10, rfl, tpv, esz, lps, hps, s8, sl, hP2, x2⟩
        have pkA := (pk12.ext x' nt12).ext (Ext.but b1314) (.pen hP' .nil)
        have pkB := pkA.ext x2 (.pen hP14 .nil)
        refine ⟨_, rfl, _, rfl, p, l, kv, kindsDs ks, n + 4 + 3 * (5 - (i + 1)) + (2 - (li + 1)), rfl, hP2.mono (by omega), pkB.sq, ?_, by rw [kindsDs, List.length_map]; omega, fun v d H3 hd tv3 hP3 bt3 => ?_⟩
        · intro z
          exact kne (List.map_eq_nil_iff.mp z)
        obtain ⟨kd, hkd, rfl⟩ := mem_kinds hd
        have lk := (kok.some kd hkd).2
        have mk : manyOf ks kd.1 = kd.2.length := many_of knd hkd
        have tpv3 := tpv.keep (.but bt3 hP2)
        refine ⟨_, rfl, _, rfl, _, 1, strsD kd.2, tv3.sq, rfl, rfl, fun v3 t3 => ⟨v3, _, rfl, t3.sq, _, _, rfl, rfl, .inr ⟨by rw [List.length_map]; omega, by rw [List.length_map]; omega⟩, ?_⟩⟩
        refine ⟨_, rfl, _, _, rfl, rfl, _, rfl, ite2 (fun h => ?_) (fun h => ?_)⟩
        · have hle : sz * kd.2.length ≤ left := by
            have z := of_decide_eq_true h
            rw [List.length_map, ← Int.natCast_mul] at z
            exact Int.ofNat_le.mp z
          refine ⟨_, rfl, _, rfl, _, 0, .str kd.1, tv3.sq, rfl, rfl, fun v5 t5 => ⟨by show 1 ≤ sizeLine; omega, fun k5 o5 => ?_⟩⟩
          have w5 := Same.new (o := .tup [v5]) o5
          refine ⟨ps.map .str, [.str kd.1], tpv3.same w5, tp_new o5 (.one t5), by rw [List.length_map]; show _ + 1 ≤ sizeLine; omega, fun z6 H6 s6 t6 => ?_⟩
          refine ⟨_, rfl, _, rfl, _, 1, strsD kd.2, (tv3.same (w5.trans s6)).sq, rfl, rfl, fun v7 t7 => ⟨v7, _, rfl, t7.sq, _, _, rfl, rfl, .inr ⟨by rw [List.length_map]; omega, by rw [List.length_map]; omega⟩, ⟨_, _, rfl, ?_⟩⟩⟩
          refine ⟨ps ++ [kd.1], z6, sz * kd.2.length, some (.int (0 + (li : Nat))), some v, ?_, ?_, by rw [size_snoc, mk, esz], by rw [List.length_append]; show ps.length + 1 ≤ li + 1; omega, fun k hk => ?_, ?_, fun _ => hle, (hP3.same (w5.trans s6)), (x2.trans (Ext.but bt3)).trans (.of (w5.trans s6))⟩
          · rw [List.length_map, Int.natCast_mul]
            rfl
          · unfold strsD
            rw [List.map_append]
            exact t6
          · rcases List.mem_append.mp hk with hk | hk
            · exact hps k hk
            · rw [List.mem_singleton.mp hk]
              exact List.mem_map.mpr ⟨kd, hkd, rfl⟩
          · omega
        · exact ⟨ps, pv, sz, _, _, rfl, tpv3, esz, by omega, hps, s8, sl, hP3, x2.trans (Ext.but bt3)⟩
      rintro σ2 H2 ⟨ps, pv, sz, v9, v10, rfl, tpv, esz, lps, hps, s8, sl, hP2, x2⟩
      have xx : Ext [p] H12 H2 := (x'.trans (Ext.but b1314)).trans x2
      have ttl2 := ttl14.keep (.ext x2 (.pen hP14 .nil))
      have ltl : tl.length ≤ 5 := by
        have z := sub.length_le
        rw [List.length_map, List.length_take] at z
        omega
      refine ⟨_, rfl, _, rfl, _, _, rfl, rfl, _, rfl, ite2 (fun h => ?_) (fun h => ?_)⟩
      · have hle : sz ≤ left := Int.ofNat_le.mp (of_decide_eq_true h)
        refine ⟨_, rfl, _, rfl, _, rfl, by show 2 ≤ sizeLine; omega, fun k5 o5 => ⟨by show 1 ≤ sizeLine; omega, fun k6 o6 => ?_⟩⟩
        have w5 := Same.new (o := .tup [V.str nm, pv]) o5
        have w6 := Same.new (o := .tup [V.ref k5]) o6
        have t5 := (tp_new o5 (.cons (.str nm) (.cons tpv .nil))).same w6
        refine ⟨kindsDs tl, [.tuple [.str nm, strsD ps]], (ttl2.same w5).same w6, tp_new o6 (.one (tp_new o5 (.cons (.str nm) (.cons tpv .nil)))), by rw [kindsDs, List.length_map]; show _ + 1 ≤ sizeLine; omega, fun z6 H6 s6 t6 => ?_⟩
        refine ⟨_, rfl, _, rfl, _, _, rfl, rfl, _, _, rfl, ?_⟩
        rw [← kindsDs_snoc (k := (nm, ps))] at t6
        have s56 := (w5.trans w6).trans s6
        refine ⟨tl ++ [(nm, ps)], left - sz, z6, v2, some (.str nm), v4, some pv, some (.int sz), v9, v10, ?_, t6, ?_, fun t ht => ?_, by rw [sizeAll_snoc]; show left - sz + (sizeAll ks tl + sizeAt ks ps) = 8; omega, fun z => ?_, (hP2.same s56).mono (by omega), xx.trans (.of s56), by omega⟩
        · rw [Int.ofNat_sub hle]
          rfl
        · rw [List.map_append, take_succ_map h2i]
          exact sub.append (List.Sublist.refl _)
        · rcases List.mem_append.mp ht with ht | ht
          · exact tks t ht
          · rw [List.mem_singleton.mp ht]
            exact ⟨by show ps.length ≤ 2; omega, hps⟩
        · exact absurd (List.append_eq_nil_iff.mp z).2 (by simp)
      · have hnle : ¬ sz ≤ left := fun z => h (decide_eq_true (Int.ofNat_le.mpr z))
        refine ⟨tl, left, tv, _, _, _, _, _, _, _, rfl, ttl2, ?_, tks, hleft, fun z => ?_, hP2.mono (by omega), xx, by omega⟩
        · rw [take_succ_map h2i]
          exact sub.trans (List.sublist_append_left _ _)
        · subst z
          have : left = 8 := by
            have z : sizeAll ks [] = 0 := rfl
            omega
          omega
    rintro σ9 H13 ⟨tl, left, tv, v2, v3, v4, v7, v8, v9, v10, rfl, ttl, sub, tks, hleft, hne, hP13, x13, _⟩
    rw [lt12] at sub hne
    refine ⟨_, rfl, _, rfl, by show 2 ≤ sizeLine; omega, fun qz nz => ?_⟩
    have sz := Same.new (o := .tup [kv, tv]) nz
    refine fin qz kv tv ks tl _ (SqT.of upd_same) ((pk12.ext x13 nt12).same sz) (ttl.same sz) kok ⟨fun z => by have := hne z; omega, ?_, List.Sublist.nodup (sub.trans (List.take_sublist _ _)) tnd, fun t ht => ?_, fun t ht => (tks t ht).1, fun t ht => (tks t ht).2, by omega⟩ ((hP13.mono (by omega)).same sz) ((b012.trans (.ext x13)).trans (But.of sz))
    · have z := sub.length_le
      rw [List.length_map, List.length_take] at z
      omega
    · exact ptn.mem_iff.mp ((List.take_sublist _ _).subset (sub.subset (List.mem_map.mpr ⟨t, ht, rfl⟩)))
end

end Og

set_option Elab.async false
set_option linter.all false
set_option maxRecDepth 100000
set_option maxHeartbeats 8000000
namespace Og
open PySem L2
def spSays (K : PySem.W.Frag) : Sp := fun vs H Q _ => ∃ (p l q : Addr) (fs : List Fm) (n : Nat), vs = [.ref p, .ref q] ∧ PenAt H p l (n + 16) ∧ LsAt K H q (fs.map Fm.d) ∧ fs.length ≤ 16 ∧
  ∀ (z : V) (ss : List (Str × Fm)) (H' : Hp), Tp K H' z (.tuple (saysDs ss)) → ss.map (·.2) = fs → (ss.map (·.1)).Nodup → (∀ s ∈ ss, s.1 ∈ sayNames) → PenAt H' p l n → But p H H' → Q z H'
def spWide (K : PySem.W.Frag) : Sp := fun vs H Q _ => ∃ (p l : Addr) (m n : Nat), vs = [.ref p, .int m] ∧ 1 ≤ m ∧ m ≤ 14 ∧ PenAt H p l (n + 100 + 41 * m) ∧
  ∀ (q : Addr) (kv tv sv : V) (b : Bk) (H' : Hp), SqT K H' q [kv, tv, sv] → Pk K H' kv (kindsDs b.kinds) → Tp K H' tv (kindsD b.tells) → Tp K H' sv (.tuple (saysDs b.says)) → BkOk m b → PenAt H' p l n → But p H H' → Q (.ref q) H'
def spBook (K : PySem.W.Frag) : Sp := fun vs H Q _ => ∃ (p l : Addr) (n : Nat), vs = [.ref p] ∧ PenAt H p l (n + 400) ∧
  ∀ (q : Addr) (kv tv sv : V) (b : Bk) (H' : Hp), SqT K H' q [kv, tv, sv] → Pk K H' kv (kindsDs b.kinds) → Tp K H' tv (kindsD b.tells) → Tp K H' sv (.tuple (saysDs b.says)) → BkOk 6 b → PenAt H' p l n → But p H H' → Q (.ref q) H'
def sayAt (names : List Str) (fs : List Fm) (i : Nat) : Option PyData := match names[i]?, fs[i]? with
  | some x, some f => some (.tuple [.str x, f.d])
  | _, _ => none
theorem says_zip : ∀ {names : List Str} {fs : List Fm}, fs.length ≤ names.length → (List.range fs.length).filterMap (sayAt names fs) = saysDs (names.zip fs)
  | [], [], _ => rfl
  | [], _ :: _, h => by simp at h
  | _ :: _, [], _ => rfl
  | x :: xs, f :: fs, h => by
    rw [List.length_cons, List.range_succ_eq_map, List.filterMap_cons, List.filterMap_map]
    have e : (sayAt (x :: xs) (f :: fs) ∘ Nat.succ) = sayAt xs fs := by
      funext i
      rfl
    rw [e, says_zip (by simpa using h)]
    rfl
theorem zip_snd {α β : Type} : ∀ {xs : List α} {ys : List β}, ys.length ≤ xs.length → (xs.zip ys).map (·.2) = ys
  | [], [], _ => rfl
  | [], _ :: _, h => by simp at h
  | _ :: _, [], _ => rfl
  | x :: xs, y :: ys, h => by
    rw [List.zip_cons_cons, List.map_cons, zip_snd (by simpa using h)]
theorem zip_fst {α β : Type} : ∀ {xs : List α} {ys : List β}, ((xs.zip ys).map (·.1)).Sublist xs
  | [], _ => by simp
  | x :: xs, [] => by simp
  | x :: xs, y :: ys => by
    rw [List.zip_cons_cons, List.map_cons]
    exact zip_fst.cons_cons x
section
variable {P : Program} {w : World} {K : PySem.W.Frag} {mg : Str → Option Value} {base : Heap}
theorem scBookSays : FnScope ["pen", "forms", "names", "at"] ["pen", "forms"] (defScope sBookSays) := ⟨rfl, rfl, rfl, by decide +kernel, rfl, by decide +kernel, by decide +kernel⟩
theorem ok_BookSays (D : DefAt K mg "_law_book_says" sBookSays) (B : Blt mg) (cShuf : Callee P w K mg base CX0 "_law_shuffled" 2 ["pen", "some"] (spShuf K)) : Callee P w K mg base CX0 "_law_book_says" 3 ["pen", "forms"] (spSays K) := by
  refine callee_of D scBookSays (fun _ _ _ _ _ _ us hl => match us, hl with | [_, _], _ => rfl) (fun vs H Q E h => ?_) (fun f cdv A outer s H vs Q E hG hr h => ?_)
  · obtain ⟨p, l, q, fs, n, rfl, _⟩ := h
    rfl
  · obtain ⟨p, l, q, fs, n, rfl, hP, hF, hlen, fin⟩ := h
    have hu : (A.deeper (PyProof.Rows.envOfC "_law_book_says" (defScope sBookSays) s.heap.objs.size f cdv)).units + 64 < cLine := hr.units
    have hu1 : (A.deeper (PyProof.Rows.envOfC "_law_book_says" (defScope sBookSays) s.heap.objs.size f cdv)).units + 1 < cLine := by omega
    have hu2 : (A.deeper (PyProof.Rows.envOfC "_law_book_says" (defScope sBookSays) s.heap.objs.size f cdv)).units < cLine := by omega
    refine ⟨_, (pss_cons (ps_set (i := 2) scBookSays.nd rfl (Or.inr rfl) (pe_fn cShuf hG (hr.mono (by decide)) pass0 (pa_cons (pv 0) (pa_cons (pe_lst (pa_cons pe_str (pa_cons pe_str (pa_cons pe_str (pa_cons pe_str (pa_cons pe_str (pa_cons pe_str (pa_cons pe_str (pa_cons pe_str (pa_cons pe_str (pa_cons pe_str (pa_cons pe_str (pa_cons pe_str (pa_cons pe_str (pa_cons pe_str (pa_cons pe_str (pa_cons pe_str pa_nil))))))))))))))))) pa_nil))))
      (pss_one (ps_ret (pe_callTy call_tupS (by rfl) B.tuple (by decide +kernel) (pa_cons (pe_lc (own := [("at", 3)]) (g := (gName 3)) (tt := tYes) (te := tTup (tCons (tOp (rIxS2 K) (tVar 2) (tVar 3)) (tCons (tOp (rIxS2 K) (tVar 1) (tVar 3)) tNil))) (by rfl) scBookSays.nd (pi_range1 rfl B.range (pa_cons (pe_callB call_lenS (by rfl) B.len (by decide +kernel) (pa_cons (pv 1) pa_nil)) pa_nil)) (blkOk_by (own := [("at", 3)]) (N := ["pen", "forms", "names", "at"]) (sc := defScope sBookSays) (by decide +kernel)) (fun _ _ _ _ _ => (by exact pg_name (i := 3) scBookSays.nd rfl (Or.inl rfl))) (fun _ _ _ _ _ => pts_nil) (fun _ _ _ _ _ => by exact (pe_tup (pa_cons (pe_ix ix_sq (pv 2) (pv 3) (fun _ _ => rfl)) (pa_cons (pe_ix ix_sq (pv 1) (pv 3) (fun _ _ => rfl)) pa_nil))))) pa_nil))))), ?_⟩
    have two : 20 ≤ sizeLine := by decide
    refine ⟨_, rfl, by show 16 ≤ sizeLine; omega, fun q1 n1 => ?_⟩
    have s1 := Same.new (o := .lst (sayNames.map V.str)) n1
    refine ⟨p, l, .ref q1, sayNames.map .str, n, rfl, hP.same s1, LsAt.sq ⟨_, upd_same, tpAll_strs sayNames⟩, (by decide), fun q2 es H2 pm nq2 l2 hP2 bt2 => ?_⟩
    obtain ⟨ys, rfl, py⟩ := perm_map pm sayNames rfl
    have ly : ys.length = 16 := py.length_eq
    have bt12 : But p H H2 := (But.of s1).trans bt2
    have hF2 : LsAt K H2 q (fs.map Fm.d) := by
      obtain ⟨kvs, z⟩ := hP.some
      obtain ⟨xs, e, r⟩ := hF
      exact ⟨xs, bt12 _ _ e (ne_of e z (by intro q; cases q)), r.keep (.but bt12 hP)⟩
    refine ⟨_, rfl, .ref q, _, rfl, hF2.sq, ?_⟩
    rw [List.length_map]
    refine ⟨_, rfl, by omega, by omega, fun D hD => ?_⟩
    refine lc_it (walk_range0 (n := fs.length)) (LcN K D (Flt H2 D fs.length (sayAt ys fs))) Flt.start ?_ ?_ ?_
    · intro i H3 hi _
      exact True.intro
    · rintro i x H3 H4 hi pv ⟨rfl, rfl⟩
      have x4 : Ext [D] H2 H4 := by
        obtain ⟨ds, ⟨_, x, _⟩, _⟩ := pv
        exact x
      have nt : NoTup H2 [D] := .new hD
      have hi2 : i < ys.length := by omega
      have lN := l2.ext x4 nt (by
        obtain ⟨xs, e, _⟩ := l2
        simpa using ne_of_none e hD)
      have lF := hF2.ext x4 nt (by
        obtain ⟨xs, e, _⟩ := hF2
        simpa using ne_of_none e hD)
      refine ⟨rfl, ?_⟩
      unfold tYes
      refine if_t ?_
      refine ⟨_, rfl, _, rfl, _, _, .str ys[i], lN.sq, rfl, atI_nat (by rw [List.getElem?_map, List.getElem?_eq_getElem hi2]; rfl), fun v1 t1 => ?_⟩
      refine ⟨_, rfl, _, rfl, _, _, fs[i].d, lF.sq, rfl, atI_nat (by rw [List.getElem?_map, List.getElem?_eq_getElem hi]; rfl), fun v2 t2 => ?_⟩
      refine ⟨by show 2 ≤ sizeLine; omega, fun z nz => Flt.yes pv hi (by omega) (Same.new nz) (tp_new nz (.cons t1 (.cons t2 .nil))) ?_⟩
      unfold sayAt
      rw [List.getElem?_eq_getElem hi2, List.getElem?_eq_getElem hi]
    rintro H3 ⟨ds, ⟨e, x3, _⟩, lD⟩
    rw [says_zip (by omega)] at e
    subst e
    have hP3 := hP2.ext x3 (by simpa using (hP2.ne hD).1.symm) (by simpa using (hP2.ne hD).2.symm)
    have s3 : Same H2 H3 := fun b o e => x3 b o e (by simpa using ne_of_none e hD)
    refine ⟨_, _, rfl, lD.sq, fun z H5 s5 tz => ?_⟩
    refine fin z (ys.zip fs) H5 tz (zip_snd (by omega)) ?_ ?_ (hP3.same s5) ((bt12.trans (But.of s3)).trans (But.of s5))
    · exact List.Sublist.nodup zip_fst (py.nodup_iff.mpr (by decide +kernel))
    · intro s hs
      exact py.mem_iff.mp (zip_fst.subset (List.mem_map.mpr ⟨s, hs, rfl⟩))
end
section
variable {P : Program} {w : World} {K : PySem.W.Frag} {mg : Str → Option Value} {base : Heap}
theorem scBookWide : FnScope ["pen", "many", "kinds", "tells", "forms", "lap"] ["pen", "many"] (defScope sBookWide) := ⟨rfl, rfl, rfl, by decide +kernel, rfl, by decide +kernel, by decide +kernel⟩
theorem ok_BookWide (D : DefAt K mg "_law_book_wide" sBookWide) (B : Blt mg) (cDraw : Callee P w K mg base CX0 "_law_draw" 1 ["pen", "many"] spDraw) (cShuf : Callee P w K mg base CX0 "_law_shuffled" 2 ["pen", "some"] (spShuf K)) (cHead : Callee P w K mg base CX0 "_law_book_head" 4 ["pen"] (spHead K)) (cForm : Callee P w K mg base CX0 "_law_book_form" 5 ["pen", "kinds", "tells"] (spForm K)) (cPlant : Callee P w K mg base CX0 "_law_book_planted" 4 ["pen", "tells"] (spPlant K)) (cSays : Callee P w K mg base CX0 "_law_book_says" 3 ["pen", "forms"] (spSays K)) : Callee P w K mg base CX0 "_law_book_wide" 6 ["pen", "many"] (spWide K) := by
  refine callee_of D scBookWide (fun _ _ _ _ _ _ us hl => match us, hl with | [_, _], _ => rfl) (fun vs H Q E h => ?_) (fun f cdv A outer s H vs Q E hG hr h => ?_)
  · obtain ⟨p, l, m, n, rfl, _⟩ := h
    rfl
  · obtain ⟨p, l, m, n, rfl, hm1, hm14, hP, fin⟩ := h
    have hu : (A.deeper (PyProof.Rows.envOfC "_law_book_wide" (defScope sBookWide) s.heap.objs.size f cdv)).units + 64 < cLine := hr.units
    have hu1 : (A.deeper (PyProof.Rows.envOfC "_law_book_wide" (defScope sBookWide) s.heap.objs.size f cdv)).units + 1 < cLine := by omega
    have hu2 : (A.deeper (PyProof.Rows.envOfC "_law_book_wide" (defScope sBookWide) s.heap.objs.size f cdv)).units < cLine := by omega
    refine ⟨_, (pss_cons (ps_asg (pe_fn cHead hG (hr.mono (by decide)) pass0 (pa_cons (pv 0) pa_nil)) (pg_tup rfl (pgs_cons (pg_name (i := 2) scBookWide.nd rfl (Or.inr rfl)) (pgs_cons (pg_name (i := 3) scBookWide.nd rfl (Or.inr rfl)) pgs_nil))))
      (pss_cons (ps_setLc (i := 4) (own := [("lap", 5)]) (g := (gName 5)) (tt := tYes) (by rfl) scBookWide.nd rfl rfl (sw_true rfl rfl rfl (by decide +kernel)) (pi_range1 rfl B.range (pa_cons (pe_op op_add pe_int (pe_fn cDraw hG (hr.mono (by decide)) pass0 (pa_cons (pv 0) (pa_cons (pv 1) pa_nil)))) pa_nil)) (blkOk_by (own := [("lap", 5)]) (N := ["pen", "many", "kinds", "tells", "forms", "lap"]) (sc := defScope sBookWide) (by decide +kernel)) (fun _ _ _ _ _ => (by exact pg_name (i := 5) scBookWide.nd rfl (Or.inl rfl))) (fun _ _ _ _ _ => pts_nil) (fun _ _ _ _ _ => by exact (pe_fn cForm hG (hr.mono (by decide)) pass0 (pa_cons (pv 0) (pa_cons (pv 2) (pa_cons (pv 3) pa_nil))))))
      (C8.pss_cut (ps_if (pt_cmpR op_eq (pe_fn cDraw hG (hr.mono (by decide)) pass0 (pa_cons (pv 0) (pa_cons pe_int pa_nil))) pe_int (nomark _)) (pss_one (ps_set (i := 4) scBookWide.nd rfl (Or.inl rfl) (pe_op op_catL (pv 4) (pe_fn cPlant hG (hr.mono (by decide)) pass0 (pa_cons (pv 0) (pa_cons (pv 3) pa_nil)))))) pss_nil)
      (pss_one (ps_ret (pe_tup (pa_cons (pv 2) (pa_cons (pv 3) (pa_cons (pe_fn cSays hG (hr.mono (by decide)) pass0 (pa_cons (pv 0) (pa_cons (pe_fn cShuf hG (hr.mono (by decide)) pass0 (pa_cons (pv 0) (pa_cons (pv 4) pa_nil))) pa_nil))) pa_nil))))))))), ?_⟩
    have two : 20 ≤ sizeLine := by decide
    refine ⟨_, rfl, p, l, n + 60 + 41 * m, rfl, hP.mono (by omega), fun q1 kv tv ks tl H1 sq hK hT kok tok hP1 bt1 => ?_⟩
    refine ⟨q1, _, rfl, sq, rfl, _, _, rfl, _, _, rfl, rfl, ?_⟩
    refine ⟨_, rfl, _, rfl, p, l, m, n + 59 + 41 * m, rfl, hP1.mono (by omega), by omega, by omega, fun r H2 r0 r1 hP2 bt2 => ?_⟩
    obtain ⟨j, rfl⟩ : ∃ k : Nat, r = (k : Int) := ⟨r.toNat, by omega⟩
    have hj : j < m := by omega
    have bt12 : But p H H2 := bt1.trans bt2
    have k12 : Tk K H1 H2 := .but bt2 hP1
    refine ⟨_, _, rfl, rfl, 1 + j, rfl, by omega, by omega, fun D hD => ?_⟩
    have nD := hP2.ne hD
    have hK2 := hK.but hP1 bt2
    have hT2 := hT.keep k12
    refine lc_it (walk_range0 (n := 1 + j)) (LcN K D fun i ds H' => ∃ fs : List Fm, ds = fs.map Fm.d ∧ fs.length = i ∧ i ≤ 1 + j ∧ (∀ f ∈ fs, FmOk ks tl f) ∧ PenAt H' p l (n + 59 + m + 40 * (m - i)) ∧ Ext [p] H2 H') ?_ ?_ ?_ ?_
    · have sD := Same.new (o := .lst []) hD
      exact lc_start ⟨[], rfl, rfl, Nat.zero_le _, (fun f hf => nomatch hf), (hP2.same sD).mono (by omega), .of sD⟩
    · intro i H3 hi _
      exact True.intro
    · rintro i x H3 H4 hi ⟨ds, ⟨fs, rfl, lf, hij, hf, hP4, x4⟩, lD⟩ ⟨rfl, rfl⟩
      have nt : NoTup H2 [p] := .pen hP2 .nil
      refine ⟨rfl, ?_⟩
      unfold tYes
      refine if_t ?_
      refine ⟨_, rfl, _, rfl, _, rfl, p, l, kv, tv, ks, tl, n + 59 + m + 40 * (m - (i + 1)), rfl, hP4.mono (by omega), hK2.ext x4 nt, hT2.keep (.ext x4 nt), kok, tok, fun z f H5 tz hP5 bt5 hf5 => ?_⟩
      have l5 := lD.ext (Ext.but bt5) (.pen hP4 .nil) (by simpa using nD.1)
      refine lc_put tz l5 (fun H6 x6 n6 => ⟨fs ++ [f], by rw [List.map_append]; rfl, by rw [List.length_append, lf]; rfl, by omega, fun g hg => ?_, hP5.ext x6 (by simpa using nD.1.symm) (by simpa using nD.2.symm), (x4.trans (Ext.but bt5)).drop x6 hD⟩) (by rw [List.length_map, lf]; omega)
      rcases List.mem_append.mp hg with hg | hg
      · exact hf g hg
      · rw [List.mem_singleton.mp hg]
        exact hf5
    rintro H3 ⟨ds, ⟨fs, rfl, lf, hij, hf, hP3, x3⟩, lD⟩
    have nt2 : NoTup H2 [p] := .pen hP2 .nil
    have bt3 : But p H H3 := bt12.trans (.ext x3)
    refine ⟨fun σ' H' => ∃ (D : Addr) (fs : List Fm) (v : Option V), σ' = [some (.ref p), some (.int m), some kv, some tv, some (.ref D), v] ∧ LsAt K H' D (fs.map Fm.d) ∧ (∀ f ∈ fs, FmOk ks tl f) ∧ fs ≠ [] ∧ fs.length ≤ m + 2 ∧ PenAt H' p l (n + m + 40) ∧ Ext [p] H2 H', ?_, ?_⟩
    · refine ⟨_, rfl, p, l, 2, n + m + 50, rfl, hP3.mono (by omega), by decide, by decide, fun r H4 r0 r1 hP4 bt4 => ⟨rfl, _, rfl, ite2 (fun h => ?_) (fun h => ?_)⟩⟩
      · have nt3 : NoTup H3 [p] := .pen hP3 .nil
        refine ⟨_, rfl, _, rfl, _, rfl, p, l, tv, ks, tl, n + m + 40, rfl, hP4.mono (by omega), (hT2.keep (.ext x3 nt2)).keep (.but bt4 hP3), kok, tok, fun q5 gs H5 nq5 l5 hg lg hP5 bt5 => ?_⟩
        have lD5 := (lD.ext (Ext.but bt4) nt3 (by simpa using nD.1)).ext (Ext.but bt5) (.pen hP4 .nil) (by simpa using nD.1)
        refine ⟨D, q5, _, _, rfl, rfl, lD5, l5, by rw [List.length_map, List.length_map]; omega, fun q6 H6 nq6 s6 l6 => ?_⟩
        refine ⟨q6, fs ++ gs, _, rfl, by rw [List.map_append]; exact l6, fun f hf' => ?_, ?_, by rw [List.length_append]; omega, hP5.same s6, ((x3.trans (Ext.but bt4)).trans (Ext.but bt5)).trans (.of s6)⟩
        · rcases List.mem_append.mp hf' with h' | h'
          · exact hf f h'
          · exact hg f h'
        · intro z
          have z2 := (List.append_eq_nil_iff.mp z).1
          rw [z2] at lf
          simp at lf
          omega
      · refine ⟨D, fs, _, rfl, lD.ext (Ext.but bt4) (.pen hP3 .nil) (by simpa using nD.1), hf, ?_, by omega, hP4.mono (by omega), x3.trans (Ext.but bt4)⟩
        intro z
        rw [z] at lf
        simp at lf
        omega
    rintro σ4 H4 ⟨D4, fs, v, rfl, l4, hf, fne, flen, hP4, x4⟩
    refine ⟨_, rfl, _, rfl, _, rfl, _, rfl, _, rfl, p, l, .ref D4, fs.map Fm.d, n + 30, rfl, hP4.mono (by rw [List.length_map]; omega), l4.sq, by rw [List.length_map]; omega, fun q5 es H5 pm nq5 l5 hP5 bt5 => ?_⟩
    obtain ⟨gs, rfl, pg⟩ := perm_map pm fs rfl
    have lg := pg.length_eq
    refine ⟨p, l, q5, gs, n + 14, rfl, hP5, l5, by omega, fun z ss H6 tz hs nds hns hP6 bt6 => ⟨by show 3 ≤ sizeLine; omega, fun q7 nq7 => ?_⟩⟩
    have s7 := Same.new (o := .tup [kv, tv, z]) nq7
    have x6 : Ext [p] H2 H6 := (x4.trans (Ext.but bt5)).trans (Ext.but bt6)
    have hsl : ss.length = gs.length := by rw [← hs, List.length_map]
    refine fin q7 kv tv z ⟨ks, tl, ss⟩ _ (SqT.of upd_same) ((hK2.ext x6 nt2).same s7) ((hT2.keep (.ext x6 nt2)).same s7) (tz.same s7) ⟨kok, tok, fun s hs' => ?_, nds, hns, ?_, by show ss.length ≤ _; omega⟩ ((hP6.mono (by omega)).same s7) ((bt12.trans (.ext x6)).trans (But.of s7))
    · refine hf s.2 (pg.mem_iff.mp ?_)
      rw [← hs]
      exact List.mem_map.mpr ⟨s, hs', rfl⟩
    · intro z
      have z2 : ss.length = 0 := by rw [show ss = [] from z]; rfl
      exact fne (List.eq_nil_of_length_eq_zero (by omega))
end
section
variable {P : Program} {w : World} {K : PySem.W.Frag} {mg : Str → Option Value} {base : Heap}
theorem scBook : FnScope ["pen"] ["pen"] (defScope sBook) := ⟨rfl, rfl, rfl, by decide +kernel, rfl, by decide +kernel, by decide +kernel⟩
theorem ok_Book (D : DefAt K mg "_law_book" sBook) (B : Blt mg) (cWide : Callee P w K mg base CX0 "_law_book_wide" 6 ["pen", "many"] (spWide K)) : Callee P w K mg base CX0 "_law_book" 7 ["pen"] (spBook K) := by
  refine callee_of D scBook (fun _ _ _ _ _ _ us hl => match us, hl with | [_], _ => rfl) (fun vs H Q E h => ?_) (fun f cdv A outer s H vs Q E hG hr h => ?_)
  · obtain ⟨p, l, n, rfl, _⟩ := h
    rfl
  · obtain ⟨p, l, n, rfl, hP, fin⟩ := h
    have hu : (A.deeper (PyProof.Rows.envOfC "_law_book" (defScope sBook) s.heap.objs.size f cdv)).units + 64 < cLine := hr.units
    have hu1 : (A.deeper (PyProof.Rows.envOfC "_law_book" (defScope sBook) s.heap.objs.size f cdv)).units + 1 < cLine := by omega
    have hu2 : (A.deeper (PyProof.Rows.envOfC "_law_book" (defScope sBook) s.heap.objs.size f cdv)).units < cLine := by omega
    refine ⟨_, (pss_one (ps_ret (pe_fn cWide hG (hr.mono (by decide)) pass0 (pa_cons (pv 0) (pa_cons pe_int pa_nil))))), ?_⟩
    exact ⟨_, rfl, p, l, 6, n, rfl, by decide, by decide, hP.mono (by omega), fin⟩
end

end Og

set_option Elab.async false
set_option linter.all false
set_option maxRecDepth 100000
set_option maxHeartbeats 8000000
namespace Og
open PySem L2
open TL
/-- the words module's own names -/
structure WordC (K : PySem.W.Frag) (mg : Str → Option Value) : Prop where
  dig : ∃ t, mg "DIGITS" = some (.str DIGs t)
  lett : ∃ t, mg "LETTERS" = some (.str LETs t)
  sig : ∃ t, mg "SIGNS" = some (.str SIGs t)
  one : ∃ t, mg "ONE_SIGNS" = some (.str ONEs t)
  lon : ∃ t, mg "LONGEST_WORD" = some (.int 12 t)
  own : ∃ a, mg "OWN_WORDS" = some (.ref a) ∧ ∀ H, SqT K H a (OWNs.map V.str)
/-- a text that fits -/
def Fits (x : Str) : Prop := x.length ≤ 1000000
theorem fits_line {x : Str} (h : Fits x) : x.length + 2 ≤ sizeLine := by
  have z : 1000002 ≤ sizeLine := by decide
  unfold Fits at h
  omega
def spRowEnd : Sp := fun vs H Q _ => ∃ (x S : Str) (n : Nat), vs = [.str x, .int n, .str S] ∧ Fits x ∧ n ≤ (tl x).length ∧ Q (.int ((n + row S ((tl x).drop n) : Nat) : Int)) H
def spPairW (K : PySem.W.Frag) (f : Cs → Str × Str) : Sp := fun vs H Q _ => ∃ (x : Str) (n : Nat), vs = [.str x, .int n] ∧ Fits x ∧ n < (tl x).length ∧
  ∀ z H', Same H H' → Tp K H' z (.tuple [.str (f ((tl x).drop n)).1, .str (f ((tl x).drop n)).2]) → Q z H'
theorem cutS_tl (z : Str) (a b : Nat) (ha : a ≤ (tl z).length) (hb : b ≤ (tl z).length) : cutS z (some (a : Int)) (some (b : Int)) = mkS (((tl z).drop a).take (b - a)) := by
  have hl := len_tl z
  show (⟨(((tl z).drop (HT.sIx z.length 0 (some (a : Int)))).take (HT.sIx z.length z.length (some (b : Int)) - HT.sIx z.length 0 (some (a : Int)))).toArray⟩ : Str) = _
  rw [HT.sIx_nat, HT.sIx_nat, Nat.min_eq_left (by omega), Nat.min_eq_left (by omega)]
  rfl
theorem cutS_over (z : Str) (a b : Nat) (ha : a ≤ (tl z).length) (hb : a ≤ b) : cutS z (some (a : Int)) (some (b : Int)) = mkS (((tl z).drop a).take (b - a)) := by
  have hl := len_tl z
  by_cases h : b ≤ (tl z).length
  · exact cutS_tl z a b ha h
  · show (⟨(((tl z).drop (HT.sIx z.length 0 (some (a : Int)))).take (HT.sIx z.length z.length (some (b : Int)) - HT.sIx z.length 0 (some (a : Int)))).toArray⟩ : Str) = _
    rw [HT.sIx_nat, HT.sIx_nat, Nat.min_eq_left (show a ≤ z.length by omega), Nat.min_eq_right (show z.length ≤ b by omega)]
    have e1 : ((tl z).drop a).take (z.length - a) = (tl z).drop a := List.take_of_length_le (by rw [List.length_drop]; omega)
    have e2 : ((tl z).drop a).take (b - a) = (tl z).drop a := List.take_of_length_le (by rw [List.length_drop]; omega)
    rw [e1, e2]
    rfl
/-- one sign at its place -/
theorem sign_at {x : Str} {n : Nat} (h : n < (tl x).length) : atI x.cps.toList (n : Int) = some (tl x)[n] := atI_nat (List.getElem?_eq_getElem h)
theorem own_in (w : Str) : inV (.str w) (OWNs.map V.str) = decide (w ∈ OWNs) := by
  generalize OWNs = ws
  induction ws with
  | nil => simp [inV]
  | cons o r ih =>
    unfold inV at ih ⊢
    rw [List.map_cons, List.any_cons, ih]
    have e : eqV (.str o) (.str w) = decide (w = o) := by
      show (o == w) = _
      by_cases h : o = w
      · rw [h]
        simp
      · rw [beq_eq_false_iff_ne.mpr h, decide_eq_false (Ne.symm h)]
    rw [e]
    by_cases h1 : w = o
    · simp [h1]
    · simp [h1]
theorem zero_s : ("0" : Str) = mkS [48] := by decide +kernel
theorem hash_s : ("#" : Str) = mkS [35] := by decide +kernel
theorem blank_s : (" " : Str) = mkS [32] := by decide +kernel
theorem bang_tl : tl ("!=" : Str) = [33, 61] := by decide +kernel
theorem sgn_eq {c d : Nat} {z : Str} (hz : z = mkS [d]) : decide (V.str ⟨#[c]⟩ = V.str z) = true ↔ c = d := by
  subst hz
  constructor
  · intro h
    have z := of_decide_eq_true h
    injection z with z
    have z2 := congrArg tl z
    exact List.head_eq_of_cons_eq z2
  · intro h
    subst h
    exact decide_eq_true rfl
theorem strs_flat {ws : List Str} : (ws.map V.str).all flatV = true := by
  rw [List.all_map]
  simp [flatV]
section
variable {P : Program} {w : World} {K : PySem.W.Frag} {mg : Str → Option Value} {base : Heap}
theorem scPRowEnd : FnScope ["line", "at", "signs", "end"] ["line", "at", "signs"] (defScope sPRowEnd) := ⟨rfl, rfl, rfl, by decide +kernel, rfl, by decide +kernel, by decide +kernel⟩
theorem ok_PRowEnd (D : DefAt K mg "row_end" sPRowEnd) (B : Blt mg)  : Callee P w K mg base CX0 "row_end" 1 ["line", "at", "signs"] spRowEnd := by
  refine callee_of D scPRowEnd (fun _ _ _ _ _ _ us hl => match us, hl with | [_, _, _], _ => rfl) (fun vs H Q E h => ?_) (fun f cdv A outer s H vs Q E hG hr h => ?_)
  · obtain ⟨x, S, n, rfl, _⟩ := h
    rfl
  · obtain ⟨x, S, n, rfl, hx, hn, q⟩ := h
    have hu : (A.deeper (PyProof.Rows.envOfC "row_end" (defScope sPRowEnd) s.heap.objs.size f cdv)).units + 64 < cLine := hr.units
    have hu1 : (A.deeper (PyProof.Rows.envOfC "row_end" (defScope sPRowEnd) s.heap.objs.size f cdv)).units + 1 < cLine := by omega
    have hu2 : (A.deeper (PyProof.Rows.envOfC "row_end" (defScope sPRowEnd) s.heap.objs.size f cdv)).units < cLine := by omega
    refine ⟨_, (pss_cons (ps_set (i := 3) scPRowEnd.nd rfl (Or.inl rfl) (pv 1))
      (pss_cons (ps_while PassesOwn.never (PW.pt (pw_and (pt_cmpR op_lt (pv 3) (pe_callB call_len_str (by rfl) B.len (by decide +kernel) (pa_cons (pv 0) pa_nil)) (nomark _)) (pw_and1 (pt_cmpR op_in_sign (pe_ix ix_str (pv 0) (pv 3) (fun _ _ => rfl)) (pv 2) rfl)))) (pss_one (ps_aug (i := 3) scPRowEnd.nd rfl (Or.inl rfl) pe_int ip_add)))
      (pss_one (ps_ret (pv 3))))), ?_⟩
    have hl := fits_line hx
    have hlen := len_tl x
    refine ⟨_, rfl, ?_⟩
    refine ⟨fun m σ' H' => ∃ e : Nat, σ' = [some (.str x), some (.int n), some (.str S), some (.int e)] ∧ H' = H ∧ n ≤ e ∧ e ≤ (tl x).length ∧ m = (tl x).length - e ∧ e + row S ((tl x).drop e) = n + row S ((tl x).drop n), ⟨_, n, rfl, rfl, Nat.le_refl _, hn, rfl, rfl⟩, ?_⟩
    rintro m σ' H' ⟨e, rfl, rfl, h1, h2, rfl, h3⟩
    refine ⟨_, rfl, _, rfl, x, rfl, by omega, _, _, rfl, rfl, _, rfl, ite2 (fun h => ?_) (fun h => ite2 (fun z => Bool.noConfusion (show false = true from z)) (fun _ => ?_))⟩
    · have he : e < (tl x).length := by
        have z := Int.ofNat_lt.mp (of_decide_eq_true h)
        omega
      have ed : (tl x).drop e = (tl x)[e] :: (tl x).drop (e + 1) := List.drop_eq_getElem_cons he
      refine ⟨_, rfl, _, rfl, x, _, (tl x)[e], rfl, rfl, by omega, sign_at he, _, rfl, (tl x)[e], S, rfl, rfl, _, rfl, ite2 (fun hc => ?_) (fun hc => ?_)⟩
      · have hc2 := of_decide_eq_true hc
        refine ⟨fun σ1 H1 => ∃ m', m' < (tl x).length - e ∧ ∃ e : Nat, σ1 = [some (.str x), some (.int n), some (.str S), some (.int e)] ∧ H1 = H' ∧ n ≤ e ∧ e ≤ (tl x).length ∧ m' = (tl x).length - e ∧ e + row S ((tl x).drop e) = n + row S ((tl x).drop n), fun σ1 H1 z => z, ?_⟩
        refine ⟨_, rfl, _, _, rfl, rfl, (tl x).length - (e + 1), by omega, e + 1, rfl, rfl, by omega, by omega, rfl, ?_⟩
        rw [← h3, ed, row_step, if_pos hc2]
        omega
      · have hc2 : ¬ (tl x)[e] ∈ tl S := fun z => hc (decide_eq_true z)
        refine ⟨_, rfl, ?_⟩
        rw [ed, row_step, if_neg hc2] at h3
        have h4 : n + row S ((tl x).drop n) = e := by omega
        rw [h4] at q
        exact q
    · have he : e = (tl x).length := by
        have z : ¬ (e : Int) < (x.length : Int) := fun z => h (decide_eq_true z)
        omega
      refine ⟨_, rfl, ?_⟩
      rw [he, List.drop_length, row_nil] at h3
      have h4 : n + row S ((tl x).drop n) = e := by omega
      rw [h4] at q
      exact q
end
section
variable {P : Program} {w : World} {K : PySem.W.Frag} {mg : Str → Option Value} {base : Heap}
theorem scPLetterWord : FnScope ["line", "at", "letters"] ["line", "at"] (defScope sPLetterWord) := ⟨rfl, rfl, rfl, by decide +kernel, rfl, by decide +kernel, by decide +kernel⟩
theorem ok_PLetterWord (D : DefAt K mg "letter_word" sPLetterWord) (B : Blt mg) (C : WordC K mg) (cRow : Callee P w K mg base CX0 "row_end" 1 ["line", "at", "signs"] spRowEnd) : Callee P w K mg base CX0 "letter_word" 2 ["line", "at"] (spPairW K letW) := by
  refine callee_of D scPLetterWord (fun _ _ _ _ _ _ us hl => match us, hl with | [_, _], _ => rfl) (fun vs H Q E h => ?_) (fun f cdv A outer s H vs Q E hG hr h => ?_)
  · obtain ⟨x, n, rfl, _⟩ := h
    rfl
  · obtain ⟨x, n, rfl, hx, hn, fin⟩ := h
    have hu : (A.deeper (PyProof.Rows.envOfC "letter_word" (defScope sPLetterWord) s.heap.objs.size f cdv)).units + 64 < cLine := hr.units
    have hu1 : (A.deeper (PyProof.Rows.envOfC "letter_word" (defScope sPLetterWord) s.heap.objs.size f cdv)).units + 1 < cLine := by omega
    have hu2 : (A.deeper (PyProof.Rows.envOfC "letter_word" (defScope sPLetterWord) s.heap.objs.size f cdv)).units < cLine := by omega
    refine ⟨_, (pss_cons (ps_set (i := 2) scPLetterWord.nd rfl (Or.inl rfl) (pe_slice sl_str (pv 0) (po_some (pv 1)) (po_some (pe_fn cRow hG (hr.mono (by decide)) pass0 (pa_cons (pv 0) (pa_cons (pv 1) (pa_cons (pe_glob (v := .str SIGs) (by rfl) C.sig.choose_spec ⟨_, rfl⟩) pa_nil)))))))
      (pss_cons (ps_if (pt_cmpR op_gt (pe_callB call_len_str (by rfl) B.len (by decide +kernel) (pa_cons (pv 2) pa_nil)) (pe_glob (v := .int 12) (by rfl) C.lon.choose_spec ⟨_, rfl⟩) (nomark _)) (pss_one (ps_ret (pd_tup (pds_cons (pd_str pe_str) (pds_cons (pd_str pe_str) pds_nil))))) pss_nil)
      (pss_one (ps_ret (pe_tup (pa_cons (pe_ifExp (pt_cmpR op_in_seq (pv 2) (pe_glob (v := .ref C.own.choose) (by rfl) C.own.choose_spec.1 rfl) (by rfl)) pe_str pe_str) (pa_cons (pv 2) pa_nil))))))), ?_⟩
    have hl := fits_line hx
    have hlen := len_tl x
    refine ⟨_, rfl, _, rfl, _, rfl, _, rfl, _, rfl, x, SIGs, n, rfl, hx, by omega, _, rfl, x, rfl, by omega, ?_⟩
    have rl := row_le SIGs ((tl x).drop n)
    rw [List.length_drop] at rl
    rw [cutS_tl x n _ (by omega) (by omega), Nat.add_sub_cancel_left]
    generalize hcs : (tl x).drop n = cs at *
    have cl : cs.length ≤ x.length := by rw [← hcs, List.length_drop]; omega
    have cl2 : (cs.take (row SIGs cs)).length ≤ x.length := by rw [List.length_take]; omega
    refine ⟨_, rfl, _, rfl, by rw [mkS_len]; omega, _, _, rfl, rfl, _, rfl, ite2 (fun h => ?_) (fun h => ?_)⟩
    · have h2 : (cs.take (row SIGs cs)).length > 12 := by
        have z := Int.ofNat_lt.mp (of_decide_eq_true h)
        rw [mkS_len] at z
        exact z
      refine ⟨[], _, .nil, rfl, fun z H' s' t => fin z H' s' ?_⟩
      unfold letW
      rw [if_pos h2]
      exact t
    · have h2 : ¬ (cs.take (row SIGs cs)).length > 12 := fun z => h (decide_eq_true (by rw [mkS_len]; exact Int.ofNat_lt.mpr z))
      unfold letW at fin
      rw [if_neg h2] at fin
      have two : 2 ≤ sizeLine := by decide
      refine ⟨_, rfl, C.own.choose, _, rfl, .inr (C.own.choose_spec.2 _), rfl, strs_flat, _, rfl, ite2 (fun h3 => ?_) (fun h3 => ?_)⟩
      · have h4 : mkS (cs.take (row SIGs cs)) ∈ OWNs := by
          have z : inV (.str (mkS (cs.take (row SIGs cs)))) (OWNs.map V.str) = true := h3
          rw [own_in] at z
          exact of_decide_eq_true z
        rw [if_pos h4] at fin
        exact ⟨_, rfl, two, fun q nq => fin _ _ (Same.new nq) (tp_new nq (.cons (.str _) (.cons (.str _) .nil)))⟩
      · have h4 : ¬ mkS (cs.take (row SIGs cs)) ∈ OWNs := fun z => h3 (by
          show inV (.str (mkS (cs.take (row SIGs cs)))) (OWNs.map V.str) = true
          rw [own_in]
          exact decide_eq_true z)
        rw [if_neg h4] at fin
        exact ⟨_, rfl, two, fun q nq => fin _ _ (Same.new nq) (tp_new nq (.cons (.str _) (.cons (.str _) .nil)))⟩
end
section
variable {P : Program} {w : World} {K : PySem.W.Frag} {mg : Str → Option Value} {base : Heap}
theorem scPFigureWord : FnScope ["line", "at", "figures"] ["line", "at"] (defScope sPFigureWord) := ⟨rfl, rfl, rfl, by decide +kernel, rfl, by decide +kernel, by decide +kernel⟩
theorem ok_PFigureWord (D : DefAt K mg "figure_word" sPFigureWord) (B : Blt mg) (C : WordC K mg) (cRow : Callee P w K mg base CX0 "row_end" 1 ["line", "at", "signs"] spRowEnd) : Callee P w K mg base CX0 "figure_word" 2 ["line", "at"] (spPairW K figW) := by
  refine callee_of D scPFigureWord (fun _ _ _ _ _ _ us hl => match us, hl with | [_, _], _ => rfl) (fun vs H Q E h => ?_) (fun f cdv A outer s H vs Q E hG hr h => ?_)
  · obtain ⟨x, n, rfl, _⟩ := h
    rfl
  · obtain ⟨x, n, rfl, hx, hn, fin⟩ := h
    have hu : (A.deeper (PyProof.Rows.envOfC "figure_word" (defScope sPFigureWord) s.heap.objs.size f cdv)).units + 64 < cLine := hr.units
    have hu1 : (A.deeper (PyProof.Rows.envOfC "figure_word" (defScope sPFigureWord) s.heap.objs.size f cdv)).units + 1 < cLine := by omega
    have hu2 : (A.deeper (PyProof.Rows.envOfC "figure_word" (defScope sPFigureWord) s.heap.objs.size f cdv)).units < cLine := by omega
    refine ⟨_, (pss_cons (ps_set (i := 2) scPFigureWord.nd rfl (Or.inl rfl) (pe_slice sl_str (pv 0) (po_some (pv 1)) (po_some (pe_fn cRow hG (hr.mono (by decide)) pass0 (pa_cons (pv 0) (pa_cons (pv 1) (pa_cons (pe_glob (v := .str DIGs) (by rfl) C.dig.choose_spec ⟨_, rfl⟩) pa_nil)))))))
      (pss_cons (ps_if (PW.pt (pw_or (pt_cmpR op_gt (pe_callB call_len_str (by rfl) B.len (by decide +kernel) (pa_cons (pv 2) pa_nil)) (pe_glob (v := .int 12) (by rfl) C.lon.choose_spec ⟨_, rfl⟩) (nomark _)) (pw_or1 (PW.pt (pw_and (pt_cmpR op_gt (pe_callB call_len_str (by rfl) B.len (by decide +kernel) (pa_cons (pv 2) pa_nil)) pe_int (nomark _)) (pw_and1 (pt_cmpR op_eq (pe_ix ix_str (pv 2) pe_int (fun _ _ => rfl)) pe_str (nomark _)))))))) (pss_one (ps_ret (pd_tup (pds_cons (pd_str pe_str) (pds_cons (pd_str pe_str) pds_nil))))) pss_nil)
      (pss_one (ps_ret (pd_tup (pds_cons (pd_str pe_str) (pds_cons (pd_var (pv 2)) pds_nil))))))), ?_⟩
    have hl := fits_line hx
    have hlen := len_tl x
    refine ⟨_, rfl, _, rfl, _, rfl, _, rfl, _, rfl, x, DIGs, n, rfl, hx, by omega, _, rfl, x, rfl, by omega, ?_⟩
    have rl := row_le DIGs ((tl x).drop n)
    rw [List.length_drop] at rl
    rw [cutS_tl x n _ (by omega) (by omega), Nat.add_sub_cancel_left]
    have cne : (tl x).drop n ≠ [] := fun z => by
      have := List.drop_eq_nil_iff.mp z
      omega
    generalize hcs : (tl x).drop n = cs at *
    have cl : cs.length ≤ x.length := by rw [← hcs, List.length_drop]; omega
    have cl2 : (cs.take (row DIGs cs)).length ≤ x.length := by rw [List.length_take]; omega
    have bad : (cs.take (row DIGs cs)).length > 12 ∨ ((cs.take (row DIGs cs)).length > 1 ∧ cs.head? = some 48) → ∀ z H', Same H H' → Tp K H' z (.tuple [.str "bad", .str "number"]) → Q z H' := fun h z H' s' t => by
      refine fin z H' s' ?_
      unfold figW
      rw [if_pos h]
      exact t
    have good : ¬ ((cs.take (row DIGs cs)).length > 12 ∨ ((cs.take (row DIGs cs)).length > 1 ∧ cs.head? = some 48)) → ∀ z H', Same H H' → Tp K H' z (.tuple [.str "number", .str (mkS (cs.take (row DIGs cs)))]) → Q z H' := fun h z H' s' t => by
      refine fin z H' s' ?_
      unfold figW
      rw [if_neg h]
      exact t
    have glen : ∀ k : Nat, decide ((k : Int) < ((mkS (cs.take (row DIGs cs))).length : Int)) = decide (k < (cs.take (row DIGs cs)).length) := fun k => by
      rw [mkS_len]
      exact decide_eq_decide.mpr Int.ofNat_lt
    refine ⟨_, rfl, _, rfl, by rw [mkS_len]; omega, _, _, rfl, rfl, _, rfl, ite2 (fun h => ?_) (fun h => ?_)⟩
    · have h2 := (glen 12).symm.trans h
      exact ite2 (fun _ => ⟨[], _, .nil, rfl, bad (.inl (of_decide_eq_true h2))⟩) (fun z => absurd rfl z)
    have h12 : ¬ 12 < (cs.take (row DIGs cs)).length := fun z => h ((glen 12).trans (decide_eq_true z))
    refine ⟨_, rfl, _, rfl, by rw [mkS_len]; omega, _, _, rfl, rfl, _, rfl, ite2 (fun h1 => ?_) (fun h1 => ?_)⟩
    · have h1b := of_decide_eq_true ((glen 1).symm.trans h1)
      obtain ⟨c, r, rfl⟩ : ∃ c r, cs = c :: r := by
        cases cs with
        | nil => exact absurd rfl cne
        | cons c r => exact ⟨c, r, rfl⟩
      obtain ⟨k, hk⟩ : ∃ k, row DIGs (c :: r) = k + 1 := ⟨row DIGs (c :: r) - 1, by rw [List.length_take] at h1b; omega⟩
      refine ⟨_, rfl, _, 0, c, rfl, rfl, by rw [mkS_len]; omega, ?_, rfl, _, rfl, ite2 (fun h3 => ?_) (fun h3 => ?_)⟩
      · show atI ((c :: r).take (row DIGs (c :: r))) 0 = some c
        rw [hk, List.take_succ_cons]
        exact atI0
      · have hc : c = 48 := (sgn_eq zero_s).mp h3
        exact ⟨[], _, .nil, rfl, bad (.inr ⟨h1b, by rw [hc]; rfl⟩)⟩
      · have hc : ¬ c = 48 := fun z => h3 ((sgn_eq zero_s).mpr z)
        refine ⟨[none, none, some (.str (mkS ((c :: r).take (row DIGs (c :: r)))))], _, .skip (.skip (.cons (.str _) .nil)), rfl, good ?_⟩
        rintro (z | ⟨_, z⟩)
        · exact h12 z
        · exact hc (Option.some.inj z)
    · have h1b : ¬ 1 < (cs.take (row DIGs cs)).length := fun z => h1 ((glen 1).trans (decide_eq_true z))
      refine ite2 (fun z => Bool.noConfusion (show false = true from z)) (fun _ => ?_)
      refine ⟨[none, none, some (.str (mkS (cs.take (row DIGs cs))))], _, .skip (.skip (.cons (.str _) .nil)), rfl, good ?_⟩
      rintro (z | ⟨z, _⟩)
      · exact h12 z
      · exact h1b z
end
section
variable {P : Program} {w : World} {K : PySem.W.Frag} {mg : Str → Option Value} {base : Heap}
theorem scPWordFrom : FnScope ["line", "at"] ["line", "at"] (defScope sPWordFrom) := ⟨rfl, rfl, rfl, by decide +kernel, rfl, by decide +kernel, by decide +kernel⟩
theorem ok_PWordFrom (D : DefAt K mg "word_from" sPWordFrom) (B : Blt mg) (C : WordC K mg) (cLet : Callee P w K mg base CX0 "letter_word" 2 ["line", "at"] (spPairW K letW)) (cFig : Callee P w K mg base CX0 "figure_word" 2 ["line", "at"] (spPairW K figW)) : Callee P w K mg base CX0 "word_from" 3 ["line", "at"] (spPairW K wordW) := by
  refine callee_of D scPWordFrom (fun _ _ _ _ _ _ us hl => match us, hl with | [_, _], _ => rfl) (fun vs H Q E h => ?_) (fun f cdv A outer s H vs Q E hG hr h => ?_)
  · obtain ⟨x, n, rfl, _⟩ := h
    rfl
  · obtain ⟨x, n, rfl, hx, hn, fin⟩ := h
    have hu : (A.deeper (PyProof.Rows.envOfC "word_from" (defScope sPWordFrom) s.heap.objs.size f cdv)).units + 64 < cLine := hr.units
    have hu1 : (A.deeper (PyProof.Rows.envOfC "word_from" (defScope sPWordFrom) s.heap.objs.size f cdv)).units + 1 < cLine := by omega
    have hu2 : (A.deeper (PyProof.Rows.envOfC "word_from" (defScope sPWordFrom) s.heap.objs.size f cdv)).units < cLine := by omega
    refine ⟨_, (pss_cons (ps_if (pt_cmpR op_in_sign (pe_ix ix_str (pv 0) (pv 1) (fun _ _ => rfl)) (pe_glob (v := .str LETs) (by rfl) C.lett.choose_spec ⟨_, rfl⟩) rfl) (pss_one (ps_ret (pe_fn cLet hG (hr.mono (by decide)) pass0 (pa_cons (pv 0) (pa_cons (pv 1) pa_nil))))) pss_nil)
      (pss_cons (ps_if (pt_cmpR op_in_sign (pe_ix ix_str (pv 0) (pv 1) (fun _ _ => rfl)) (pe_glob (v := .str DIGs) (by rfl) C.dig.choose_spec ⟨_, rfl⟩) rfl) (pss_one (ps_ret (pe_fn cFig hG (hr.mono (by decide)) pass0 (pa_cons (pv 0) (pa_cons (pv 1) pa_nil))))) pss_nil)
      (pss_cons (ps_if (pt_cmpR op_eq (pe_slice sl_str (pv 0) (po_some (pv 1)) (po_some (pe_op op_add (pv 1) pe_int))) pe_str (nomark _)) (pss_one (ps_ret (pd_tup (pds_cons (pd_str pe_str) (pds_cons (pd_str pe_str) pds_nil))))) pss_nil)
      (pss_cons (ps_if (pt_cmpR op_in_sign (pe_ix ix_str (pv 0) (pv 1) (fun _ _ => rfl)) (pe_glob (v := .str ONEs) (by rfl) C.one.choose_spec ⟨_, rfl⟩) rfl) (pss_one (ps_ret (pe_tup (pa_cons pe_str (pa_cons (pe_ix ix_str (pv 0) (pv 1) (fun _ _ => rfl)) pa_nil))))) pss_nil)
      (pss_one (ps_ret (pd_tup (pds_cons (pd_str pe_str) (pds_cons (pd_str pe_str) pds_nil))))))))), ?_⟩
    have hl := fits_line hx
    have hlen := len_tl x
    have ed : (tl x).drop n = (tl x)[n] :: (tl x).drop (n + 1) := List.drop_eq_getElem_cons hn
    have ix : ∀ {Q' : VK} {H' : Hp}, Q' (.str ⟨#[(tl x)[n]]⟩) H' → rIxS (.str x) (.int n) H' Q' := fun q => ⟨x, n, (tl x)[n], rfl, rfl, by omega, sign_at hn, q⟩
    generalize hc : (tl x)[n] = c at ed ix
    generalize hr : (tl x).drop (n + 1) = r at ed
    have fit : wordW ((tl x).drop n) = wordW (c :: r) := by rw [ed]
    refine ⟨_, rfl, _, rfl, ix ⟨c, LETs, rfl, rfl, _, rfl, ite2 (fun h => ?_) (fun h => ?_)⟩⟩
    · have h1 : c ∈ tl LETs := of_decide_eq_true h
      refine ⟨_, rfl, _, rfl, x, n, rfl, hx, hn, fun z H' s' t => fin z H' s' ?_⟩
      have e : wordW ((tl x).drop n) = letW ((tl x).drop n) := by
        rw [ed]
        unfold wordW
        simp only
        rw [if_pos h1]
      rw [e]
      exact t
    have h1 : ¬ c ∈ tl LETs := fun z => h (decide_eq_true z)
    refine ⟨_, rfl, _, rfl, ix ⟨c, DIGs, rfl, rfl, _, rfl, ite2 (fun h => ?_) (fun h => ?_)⟩⟩
    · have h2 : c ∈ tl DIGs := of_decide_eq_true h
      refine ⟨_, rfl, _, rfl, x, n, rfl, hx, hn, fun z H' s' t => fin z H' s' ?_⟩
      have e : wordW ((tl x).drop n) = figW ((tl x).drop n) := by
        rw [ed]
        unfold wordW
        simp only
        rw [if_neg h1, if_pos h2]
      rw [e]
      exact t
    have h2 : ¬ c ∈ tl DIGs := fun z => h (decide_eq_true z)
    refine ⟨_, rfl, _, rfl, _, rfl, _, rfl, _, _, rfl, rfl, _, rfl, x, rfl, by omega, rfl, _, rfl, ite2 (fun h => ?_) (fun h => ?_)⟩
    · have h3 : (c :: r).take 2 = [33, 61] := by
        have z := of_decide_eq_true h
        injection z with z
        have z2 := congrArg tl z
        rw [show ((n : Int) + 2) = ((n + 2 : Nat) : Int) from rfl, cutS_over x n (n + 2) (by omega) (by omega), ed, Nat.add_sub_cancel_left, tl_mkS] at z2
        exact z2.trans bang_tl
      refine ⟨[], _, .nil, rfl, fun z H' s' t => fin z H' s' ?_⟩
      rw [fit]
      unfold wordW
      simp only
      rw [if_neg h1, if_neg h2, if_pos h3]
      exact t
    have h3 : ¬ (c :: r).take 2 = [33, 61] := fun z => h (decide_eq_true (by
      rw [show ((n : Int) + 2) = ((n + 2 : Nat) : Int) from rfl, cutS_over x n (n + 2) (by omega) (by omega), ed, Nat.add_sub_cancel_left, z]
      exact congrArg V.str (ext_tl bang_tl.symm)))
    refine ⟨_, rfl, _, rfl, ix ⟨c, ONEs, rfl, rfl, _, rfl, ite2 (fun h => ?_) (fun h => ?_)⟩⟩
    · have h4 : c ∈ tl ONEs := of_decide_eq_true h
      refine ⟨_, rfl, _, rfl, ix ⟨by show 2 ≤ sizeLine; omega, fun q nq => fin _ _ (Same.new nq) (tp_new nq ?_)⟩⟩
      rw [fit]
      unfold wordW
      simp only
      rw [if_neg h1, if_neg h2, if_neg h3, if_pos h4]
      exact .cons (.str _) (.cons (.str _) .nil)
    have h4 : ¬ c ∈ tl ONEs := fun z => h (decide_eq_true z)
    refine ⟨[], _, .nil, rfl, fun z H' s' t => fin z H' s' ?_⟩
    rw [fit]
    unfold wordW
    simp only
    rw [if_neg h1, if_neg h2, if_neg h3, if_neg h4]
    exact t
end

end Og

set_option Elab.async false
set_option linter.all false
set_option maxRecDepth 100000
set_option maxHeartbeats 8000000
namespace Og
open PySem L2
open TL
def spWordsIn (K : PySem.W.Frag) : Sp := fun vs H Q _ => ∃ x : Str, vs = [.str x] ∧ Fits x ∧ ∀ (q : Addr) (H' : Hp), H q = none → Same H H' → LsAt K H' q ((wordsW (tl x)).map tokD) → Q (.ref q) H'
theorem newl : ("\n" : Str) = mkS [10] := by decide +kernel
theorem split_lines (x : Str) : (Txt.split x "\n").map tl = linesOf (tl x) := by
  have z := split_spl x "\n" (by rw [newl]; simp [mkS]) (kind_ok (by decide +kernel))
  rw [z, newl]
  rfl
theorem atI_last {α : Type} {xs : List α} {x : α} (h : xs.getLast? = some x) : atI xs (-1) = some x := by
  have hn : xs ≠ [] := fun e => by rw [e] at h; cases h
  have hl : 0 < xs.length := List.length_pos_iff.mpr hn
  have e : ixN xs.length (-1) = some (xs.length - 1) := by
    unfold ixN
    rw [if_neg (by omega), if_pos (by omega)]
    congr 1
    omega
  unfold atI
  rw [e]
  show xs[xs.length - 1]? = some x
  rw [← List.getLast?_eq_getElem?]
  exact h
/-- what is known while the lines are gone through -/
structure WdSt (K : PySem.W.Frag) (H0 H : Hp) (q : Addr) (toks : List Tok) : Prop where
  ls : LsAt K H q (toks.map tokD)
  x : Ext [q] H0 H
theorem WdSt.same {K : PySem.W.Frag} {H0 H H' : Hp} {q : Addr} {toks : List Tok} (h : WdSt K H0 H q toks) (s : Same H H') : WdSt K H0 H' q toks := ⟨h.ls.same s, h.x.trans (.of s)⟩
theorem WdSt.put {K : PySem.W.Frag} {H0 H : Hp} {q : Addr} {toks : List Tok} {t : Tok} {z : V} (h : WdSt K H0 H q toks) (tz : Tp K H z (tokD t)) : ∃ ys, H q = some (.lst ys) ∧ ys.length = toks.length ∧ WdSt K H0 (upd H q (.lst (ys ++ [z]))) q (toks ++ [t]) := by
  obtain ⟨ys, e, r⟩ := h.ls
  have e5 : Ext [q] H (upd H q (.lst (ys ++ [z]))) := Ext.upd (by simp)
  refine ⟨ys, e, by rw [r.length, List.length_map], ⟨ys ++ [z], upd_same, ?_⟩, h.x.trans e5⟩
  rw [List.map_append]
  exact (r.append (.one tz)).keep (.ext e5 (.list e .nil))
section
variable {P : Program} {w : World} {K : PySem.W.Frag} {mg : Str → Option Value} {base : Heap}
theorem scPWordsIn : FnScope ["text", "found", "lines", "number", "line", "at", "sort", "letters"] ["text"] (defScope sPWordsIn) := ⟨rfl, rfl, rfl, by decide +kernel, rfl, by decide +kernel, by decide +kernel⟩
theorem ok_PWordsIn (D : DefAt K mg "words_in" sPWordsIn) (B : Blt mg) (cWord : Callee P w K mg base CX0 "word_from" 3 ["line", "at"] (spPairW K wordW)) : Callee P w K mg base CX0 "words_in" 4 ["text"] (spWordsIn K) := by
  refine callee_of D scPWordsIn (fun _ _ _ _ _ _ us hl => match us, hl with | [_], _ => rfl) (fun vs H Q E h => ?_) (fun f cdv A outer s H vs Q E hG hr h => ?_)
  · obtain ⟨x, rfl, _⟩ := h
    rfl
  · obtain ⟨x, rfl, hx, fin⟩ := h
    have hu : (A.deeper (PyProof.Rows.envOfC "words_in" (defScope sPWordsIn) s.heap.objs.size f cdv)).units + 64 < cLine := hr.units
    have hu1 : (A.deeper (PyProof.Rows.envOfC "words_in" (defScope sPWordsIn) s.heap.objs.size f cdv)).units + 1 < cLine := by omega
    have hu2 : (A.deeper (PyProof.Rows.envOfC "words_in" (defScope sPWordsIn) s.heap.objs.size f cdv)).units < cLine := by omega
    refine ⟨_, (pss_cons (ps_set (i := 1) scPWordsIn.nd rfl (Or.inl rfl) (pe_lst pa_nil))
      (pss_cons (ps_set (i := 2) scPWordsIn.nd rfl (Or.inl rfl) (pe_split (pv 0) pe_str))
      (pss_cons (ps_for PassesOwn.never rfl (pi_range1 rfl B.range (pa_cons (pe_callB call_lenS (by rfl) B.len (by decide +kernel) (pa_cons (pv 2) pa_nil)) pa_nil)) (pg_name (i := 3) scPWordsIn.nd rfl (Or.inl rfl)) (pss_cons (ps_set (i := 4) scPWordsIn.nd rfl (Or.inl rfl) (pe_ix ix_sq (pv 2) (pv 3) (fun _ _ => rfl)))
      (pss_cons (ps_set (i := 5) scPWordsIn.nd rfl (Or.inl rfl) pe_int)
      (pss_one (ps_while PassesOwn.never (PW.pt (pw_and (pt_cmpR op_lt (pv 5) (pe_callB call_len_str (by rfl) B.len (by decide +kernel) (pa_cons (pv 4) pa_nil)) (nomark _)) (pw_and1 (pt_cmpR op_ne (pe_ix ix_str (pv 4) (pv 5) (fun _ _ => rfl)) pe_str (nomark _))))) (pss_cons (ps_if (pt_cmpR op_eq (pe_ix ix_str (pv 4) (pv 5) (fun _ _ => rfl)) pe_str (nomark _)) (pss_cons (ps_aug (i := 5) scPWordsIn.nd rfl (Or.inl rfl) pe_int ip_add)
      (pss_one ps_continue)) pss_nil)
      (pss_cons (ps_asg (pe_fn cWord hG (hr.mono (by decide)) pass0 (pa_cons (pv 4) (pa_cons (pv 5) pa_nil))) (pg_tup rfl (pgs_cons (pg_name (i := 6) scPWordsIn.nd rfl (Or.inl rfl)) (pgs_cons (pg_name (i := 7) scPWordsIn.nd rfl (Or.inl rfl)) pgs_nil))))
      (pss_cons (ps_expr (pe_bm PySem.F.plainAttrs_list PySem.F.slot_list_append PySem.F.type_list_append mt_append (pv 1) (pa_cons (pd_tup (pds_cons (pd_var (pv 6)) (pds_cons (pd_var (pv 7)) (pds_cons (pd_var (pv 3)) (pds_cons (pd_var (pv 5)) pds_nil))))) pa_nil)))
      (pss_cons (ps_if (pt_cmpR op_eq (pv 6) pe_str (nomark _)) (pss_one (ps_ret (pv 1))) pss_nil)
      (pss_one (ps_aug (i := 5) scPWordsIn.nd rfl (Or.inl rfl) (pe_callB call_len_str (by rfl) B.len (by decide +kernel) (pa_cons (pv 7) pa_nil)) ip_add)))))))))))
      (pss_cons (ps_expr (pe_bm PySem.F.plainAttrs_list PySem.F.slot_list_append PySem.F.type_list_append mt_append (pv 1) (pa_cons (pe_tup (pa_cons pe_str (pa_cons pe_str (pa_cons (pe_op op_sub (pe_callB call_lenS (by rfl) B.len (by decide +kernel) (pa_cons (pv 2) pa_nil)) pe_int) (pa_cons (pe_callB call_len_str (by rfl) B.len (by decide +kernel) (pa_cons (pe_ix ix_sq (pv 2) (pe_un un_neg pe_int) (fun _ _ => rfl)) pa_nil)) pa_nil))))) pa_nil)))
      (pss_one (ps_ret (pv 1))))))), ?_⟩
    have hl := fits_line hx
    have hlen := len_tl x
    have big : 1000002 ≤ sizeLine := by decide
    refine ⟨by show 0 ≤ sizeLine; omega, fun q nq => ?_⟩
    have sq := Same.new (o := .lst []) nq
    refine ⟨_, rfl, ⟨_, rfl⟩, x, "\n", rfl, rfl, by decide +kernel, hl, fun ql nql => ?_⟩
    have sl := split_lines x
    generalize hL : Txt.split x "\n" = L at sl ⊢
    generalize hls : linesOf (tl x) = ls at sl
    have sql := Same.new (o := .lst (L.map V.str)) nql
    have nqlq : ql ≠ q := fun e => by
      rw [e, upd_same] at nql
      cases nql
    have lsum : (ls.map List.length).sum + ls.length = (tl x).length + 1 := by
      rw [← hls]
      have z := spl_sum (s := 10) (tl x) []
      rw [List.length_nil, Nat.zero_add] at z
      exact z
    have lne : ls ≠ [] := by
      rw [← hls]
      exact spl_ne _ _
    have hLl : L.length = ls.length := by rw [← sl, List.length_map]
    have tot := linesW_len ls 0
    have hx2 : x.length ≤ 1000000 := hx
    have lL0 : LsAt K (upd (upd H q (.lst [])) ql (.lst (L.map V.str))) ql (L.map .str) := ls_new nql (tpAll_strs L)
    have w0 : WdSt K (upd (upd H q (.lst [])) ql (.lst (L.map V.str))) (upd (upd H q (.lst [])) ql (.lst (L.map V.str))) q [] := ⟨⟨[], by rw [upd_ne nqlq.symm, upd_same], .nil⟩, Ext.refl _⟩
    have sH0 : Same H (upd (upd H q (.lst [])) ql (.lst (L.map V.str))) := sq.trans sql
    have nt : NoTup (upd (upd H q (.lst [])) ql (.lst (L.map V.str))) [q] := .list (by rw [upd_ne nqlq.symm, upd_same]) .nil
    generalize hH0 : upd (upd H q (.lst [])) ql (.lst (L.map V.str)) = H0 at lL0 w0 sH0 nt ⊢
    have lLx : ∀ {H' : Hp}, Ext [q] H0 H' → LsAt K H' ql (L.map .str) := fun x => lL0.ext x nt (by simpa using nqlq)
    have whole : ∀ {H' : Hp}, Ext [q] H0 H' → Same H H' := fun x b o e => x b o (sH0 b o e) (by simpa using ne_of_none e nq)
    refine ⟨_, rfl, _, _, rfl, lL0.sq, _, rfl, by rw [List.length_map]; omega, by rw [List.length_map]; omega, ?_⟩
    rw [List.length_map]
    refine for_it (walk_range0 (n := L.length)) (fun i σ' H' => ∃ (toks : List Tok) (v3 v4 v5 v6 v7 : Option V), σ' = [some (.str x), some (.ref q), some (.ref ql), v3, v4, v5, v6, v7] ∧ WdSt K H0 H' q toks ∧
      toks ++ (linesW i (ls.drop i)).1 = (linesW 0 ls).1 ∧ (linesW i (ls.drop i)).2 = (linesW 0 ls).2) ?_ ?_ ?_ ?_
    · exact ⟨[], _, _, _, _, _, rfl, w0, rfl, rfl⟩
    · intro i σ' H' hi _
      exact True.intro
    · rintro i y σ' H1 H1' hi ⟨toks, v3, v4, v5, v6, v7, rfl, st, e1, e2⟩ ⟨rfl, rfl⟩
      have hi2 : i < ls.length := by omega
      refine ⟨_, rfl, _, rfl, _, _, .str L[i], (lLx st.x).sq, rfl, atI_nat (by rw [List.getElem?_map, List.getElem?_eq_getElem hi]; rfl), fun v t => ?_⟩
      have ev := t.str_inv
      subst ev
      have ecs : tl L[i] = ls[i] := by
        have z : (L.map tl)[i]? = ls[i]? := by rw [sl]
        rw [List.getElem?_map, List.getElem?_eq_getElem hi, List.getElem?_eq_getElem hi2] at z
        exact Option.some.inj z
      have ed : ls.drop i = tl L[i] :: ls.drop (i + 1) := by rw [ecs]; exact List.drop_eq_getElem_cons hi2
      generalize hline : L[i] = line at ecs ed ⊢
      have fl : Fits line := by
        have z := mem_sum (List.mem_map.mpr ⟨ls[i], List.getElem_mem hi2, rfl⟩ : ls[i].length ∈ ls.map List.length)
        rw [← ecs, ← len_tl] at z
        unfold Fits
        omega
      have hll := fits_line fl
      have hlenl := len_tl line
      rw [ed] at e1 e2
      generalize hT : toks ++ (lineW 0 (tl line)).1.map (atLine i) = T0
      have hT1 : ∃ more, T0 ++ more = (linesW 0 ls).1 := by
        rw [← hT, ← e1]
        unfold linesW
        split
        · exact ⟨[], by simp⟩
        · exact ⟨(linesW (i + 1) (ls.drop (i + 1))).1, by simp⟩
      have hTl : T0.length ≤ 1000000 := by
        obtain ⟨more, e⟩ := hT1
        have z := congrArg List.length e
        rw [List.length_append] at z
        omega
      refine ⟨fun m σ' H' => ∃ (a : Nat) (tk : List Tok) (v6 v7 : Option V), σ' = [some (.str x), some (.ref q), some (.ref ql), some (.int i), some (.str line), some (.int a), v6, v7] ∧ WdSt K H0 H' q tk ∧ a ≤ (tl line).length ∧ m = (tl line).length - a ∧
        tk ++ (lineW a ((tl line).drop a)).1.map (atLine i) = T0 ∧ (lineW a ((tl line).drop a)).2 = (lineW 0 (tl line)).2, ⟨_, 0, toks, _, _, rfl, st, Nat.zero_le _, rfl, hT, rfl⟩, ?_⟩
      rintro m σ' H2 ⟨a, tk, v6, v7, rfl, st2, ha, rfl, g1, g2⟩
      have done : ∀ {v6 v7 : Option V}, lineW a ((tl line).drop a) = ([], false) → ∃ (toks : List Tok) (v3 v4 v5 v6' v7' : Option V), [some (V.str x), some (.ref q), some (.ref ql), some (.int i), some (.str line), some (.int a), v6, v7] = [some (V.str x), some (.ref q), some (.ref ql), v3, v4, v5, v6', v7'] ∧ WdSt K H0 H2 q toks ∧
          toks ++ (linesW (i + 1) (ls.drop (i + 1))).1 = (linesW 0 ls).1 ∧ (linesW (i + 1) (ls.drop (i + 1))).2 = (linesW 0 ls).2 := by
        intro v6 v7 h
        rw [h] at g1 g2
        have g3 : tk = T0 := by simpa using g1
        have g4 : (lineW 0 (tl line)).2 = false := g2.symm
        rw [linesW_cons, g4, if_neg Bool.false_ne_true] at e1 e2
        refine ⟨tk, _, _, _, _, _, rfl, st2, ?_, e2⟩
        rw [g3, ← hT, List.append_assoc]
        exact e1
      refine ⟨_, rfl, _, rfl, line, rfl, by omega, _, _, rfl, rfl, _, rfl, ite2 (fun h => ?_) (fun h => ite2 (fun z => Bool.noConfusion (show false = true from z)) (fun _ => ?_))⟩
      · have hal : a < (tl line).length := by
          have z := Int.ofNat_lt.mp (of_decide_eq_true h)
          omega
        have eda : (tl line).drop a = (tl line)[a] :: (tl line).drop (a + 1) := List.drop_eq_getElem_cons hal
        have ix : ∀ {Q' : VK} {H' : Hp}, Q' (.str ⟨#[(tl line)[a]]⟩) H' → rIxS (.str line) (.int a) H' Q' := fun q => ⟨line, a, (tl line)[a], rfl, rfl, by omega, sign_at hal, q⟩
        generalize hc : (tl line)[a] = c at eda ix
        refine ⟨_, rfl, _, rfl, ix ⟨rfl, _, rfl, ite2 (fun h3 => ?_) (fun h3 => ?_)⟩⟩
        · have h35 : c ≠ 35 := fun z => by
            have w := (sgn_eq hash_s).mpr z
            rw [w] at h3
            cases h3
          refine ⟨fun σ1 H1 => ∃ m', m' < (tl line).length - a ∧ ∃ (a : Nat) (tk : List Tok) (v6 v7 : Option V), σ1 = [some (.str x), some (.ref q), some (.ref ql), some (.int i), some (.str line), some (.int a), v6, v7] ∧ WdSt K H0 H1 q tk ∧ a ≤ (tl line).length ∧ m' = (tl line).length - a ∧
            tk ++ (lineW a ((tl line).drop a)).1.map (atLine i) = T0 ∧ (lineW a ((tl line).drop a)).2 = (lineW 0 (tl line)).2, fun σ1 H1 z => z, ?_⟩
          refine ⟨_, rfl, _, rfl, ix ⟨rfl, _, rfl, ite2 (fun h4 => ?_) (fun h4 => ?_)⟩⟩
          · have h32 : c = 32 := (sgn_eq blank_s).mp h4
            rw [eda, h32, lineW_blank] at g1 g2
            exact ⟨_, rfl, _, _, rfl, rfl, _, by omega, a + 1, tk, v6, v7, rfl, st2, by omega, rfl, g1, g2⟩
          have h32 : c ≠ 32 := fun z => h4 ((sgn_eq blank_s).mpr z)
          refine ⟨_, rfl, _, rfl, line, a, rfl, fl, hal, fun z H3 s3 t3 => ?_⟩
          obtain ⟨b, y1, y2, rfl, sqb, u1, u2⟩ := t3.pair
          have e1' := u1.str_inv
          have e2' := u2.str_inv
          subst e1' e2'
          refine ⟨b, _, rfl, sqb, rfl, _, _, rfl, _, _, rfl, rfl, ?_⟩
          rw [eda]
          have st3 := st2.same s3
          refine ⟨_, rfl, st3.ls.ty, [none, none, none, some (.int i), none, some (.int a), some (.str (wordW (c :: (tl line).drop (a + 1))).1), some (.str (wordW (c :: (tl line).drop (a + 1))).2)], tokD ((wordW (c :: (tl line).drop (a + 1))).1, (wordW (c :: (tl line).drop (a + 1))).2, i, a), .skip (.skip (.skip (.cons (.int _) (.skip (.cons (.int _) (.cons (.str _) (.cons (.str _) .nil))))))), rfl, fun z H4 s4 t4 => ?_⟩
          obtain ⟨ys, ey, ly, st5⟩ := (st3.same s4).put t4
          have tkl : tk.length < sizeLine := by
            have z := congrArg List.length g1
            rw [List.length_append] at z
            omega
          refine ⟨q, ys, z, rfl, rfl, ey, by omega, ?_⟩
          refine ⟨_, rfl, rfl, _, rfl, ite2 (fun h5 => ?_) (fun h5 => ?_)⟩
          · have hb : (wordW (c :: (tl line).drop (a + 1))).1 = "bad" := by
              have z := of_decide_eq_true h5
              injection z
            rw [eda, lineW_bad h35 h32 hb] at g1 g2
            have g4 : (lineW 0 (tl line)).2 = true := g2.symm
            rw [linesW_cons, g4, if_pos rfl] at e1 e2
            refine ⟨_, rfl, fin q _ nq (whole st5.x) ?_⟩
            unfold wordsW
            rw [hls, if_pos e2.symm, ← e1, hT, ← g1]
            exact st5.ls
          · have hb : (wordW (c :: (tl line).drop (a + 1))).1 ≠ "bad" := fun z => h5 (by rw [z]; exact decide_eq_true rfl)
            have wp := wordW_pos hb
            rw [eda, lineW_word h35 h32 hb] at g1 g2
            have el : (c :: (tl line).drop (a + 1)).length = (tl line).length - a := by rw [← eda, List.length_drop]
            have ed2 : ∀ k, (c :: (tl line).drop (a + 1)).drop k = (tl line).drop (a + k) := fun k => by rw [← eda, drop_two]
            have wl : (wordW (c :: (tl line).drop (a + 1))).2.length ≤ (tl line).length - a := by
              have z := congrArg List.length wp.2
              rw [List.length_take, ← len_tl, el] at z
              omega
            rw [ed2] at g1 g2
            refine ⟨_, rfl, _, rfl, _, rfl, by omega, _, _, rfl, rfl, (tl line).length - (a + (wordW (c :: (tl line).drop (a + 1))).2.length), by omega, a + (wordW (c :: (tl line).drop (a + 1))).2.length, _, _, _, rfl, st5, by omega, rfl, ?_, g2⟩
            rw [List.append_assoc]
            exact g1
        · have h35 : c = 35 := by
            by_cases z : c = 35
            · exact z
            · exfalso
              refine h3 ?_
              have w : ¬ decide (V.str ⟨#[c]⟩ = V.str "#") = true := fun w => z ((sgn_eq hash_s).mp w)
              rw [Bool.not_eq_true] at w
              rw [w]
              rfl
          exact done (by rw [eda, h35]; exact lineW_hash)
      · have hal : a = (tl line).length := by
          have z : ¬ (a : Int) < (line.length : Int) := fun z => h (decide_eq_true z)
          omega
        exact done (by rw [hal, List.drop_length]; rfl)
    rintro σ' H1 ⟨toks, v3, v4, v5, v6, v7, rfl, st, e1, e2⟩
    rw [hLl, List.drop_length] at e1 e2
    have e1 : toks = (linesW 0 ls).1 := by rw [← e1]; exact (List.append_nil _).symm
    have e2 : (linesW 0 ls).2 = false := e2.symm
    obtain ⟨lst, hlast⟩ : ∃ y, L.getLast? = some y := by
      cases h : L.getLast? with
      | some y => exact ⟨y, rfl⟩
      | none =>
        exfalso
        rw [List.getLast?_eq_none_iff] at h
        rw [h] at hLl
        exact lne (List.eq_nil_of_length_eq_zero hLl.symm)
    have lastls : ls.getLast?.getD [] = tl lst := by
      rw [← sl, List.getLast?_map, hlast]
      rfl
    have lpos : 0 < L.length := by
      cases L with
      | nil => cases hlast
      | cons _ _ => simp
    have lstl : lst.length ≤ 1000000 := by
      have m := List.mem_of_getLast? hlast
      have z := mem_sum (List.mem_map.mpr ⟨tl lst, by rw [← sl]; exact List.mem_map.mpr ⟨lst, m, rfl⟩, rfl⟩ : (tl lst).length ∈ ls.map List.length)
      rw [← len_tl] at z
      omega
    have lL1 := lLx st.x
    refine ⟨_, rfl, st.ls.ty, _, rfl, _, _, rfl, lL1.sq, _, _, rfl, rfl, _, rfl, _, rfl, _, -1, .str lst, lL1.sq, rfl, atI_last (by rw [List.getLast?_map, hlast]; rfl), fun v t => ?_⟩
    have ev := t.str_inv
    subst ev
    refine ⟨lst, rfl, by omega, by show 4 ≤ sizeLine; omega, fun q2 nq2 => ?_⟩
    have s2 := Same.new (o := .tup [V.str "end", .str "", .int (((L.map PyData.str).length : Int) - 1), .int (lst.length : Int)]) nq2
    have tz : Tp K (upd H1 q2 (.tup [V.str "end", .str "", .int (((L.map PyData.str).length : Int) - 1), .int (lst.length : Int)])) (.ref q2) (tokD (endTok ls)) := by
      have ei : (((L.map PyData.str).length : Int) - 1) = ((ls.length - 1 : Nat) : Int) := by rw [List.length_map]; omega
      have el : (lst.length : Int) = (((ls.getLast?.getD []).length : Nat) : Int) := by rw [lastls, len_tl]
      unfold tokD endTok
      rw [← ei, ← el]
      exact tp_new nq2 (.cons (.str _) (.cons (.str _) (.cons (.int _) (.cons (.int _) .nil))))
    obtain ⟨ys, ey, ly, st5⟩ := (st.same s2).put tz
    refine ⟨q, ys, .ref q2, rfl, rfl, ey, by rw [ly, e1]; omega, ?_⟩
    refine ⟨_, rfl, fin q _ nq (whole st5.x) ?_⟩
    unfold wordsW
    rw [hls, if_neg (by rw [e2]; exact Bool.false_ne_true), ← e1]
    exact st5.ls
end

end Og

set_option Elab.async false
set_option linter.all false
set_option maxRecDepth 100000
set_option maxHeartbeats 8000000
namespace Og
open PySem L2
open TL
def badText : PyData := .tuple [.tuple [.str "bad", .str "text", .int 0, .int 0]]
def spWordsOf (K : PySem.W.Frag) : Sp := fun vs H Q _ => ∃ (v : V) (t : Value) (b : Bool), vs = [v] ∧ TyX K H v t ∧ PySem.W.kitOne K t (.type "str") = some b ∧
  (b = true → ∃ x, v = .str x ∧ Fits x ∧ ∀ z H', Same H H' → Tp K H' z (.tuple ((wordsW (tl x)).map tokD)) → Q z H') ∧
  (b = false → ∀ z H', Same H H' → Tp K H' z badText → Q z H')
section
variable {P : Program} {w : World} {K : PySem.W.Frag} {mg : Str → Option Value} {base : Heap}
theorem scPWordsOf : FnScope ["text"] ["text"] (defScope sPWordsOf) := ⟨rfl, rfl, rfl, by decide +kernel, rfl, by decide +kernel, by decide +kernel⟩
theorem ok_PWordsOf (D : DefAt K mg "words_of" sPWordsOf) (B : Blt mg) (cIn : Callee P w K mg base CX0 "words_in" 4 ["text"] (spWordsIn K)) : Callee P w K mg base CX0 "words_of" 5 ["text"] (spWordsOf K) := by
  refine callee_of D scPWordsOf (fun _ _ _ _ _ _ us hl => match us, hl with | [_], _ => rfl) (fun vs H Q E h => ?_) (fun f cdv A outer s H vs Q E hG hr h => ?_)
  · obtain ⟨v, t, b, rfl, _⟩ := h
    rfl
  · obtain ⟨v, t, b, rfl, ty, kit, h1, h2⟩ := h
    have hu : (A.deeper (PyProof.Rows.envOfC "words_of" (defScope sPWordsOf) s.heap.objs.size f cdv)).units + 64 < cLine := hr.units
    have hu1 : (A.deeper (PyProof.Rows.envOfC "words_of" (defScope sPWordsOf) s.heap.objs.size f cdv)).units + 1 < cLine := by omega
    have hu2 : (A.deeper (PyProof.Rows.envOfC "words_of" (defScope sPWordsOf) s.heap.objs.size f cdv)).units < cLine := by omega
    refine ⟨_, (pss_cons (ps_if (pt_not (pt_val (pe_callB call_isi (by rfl) B.isinstance (by decide +kernel) (pa_cons (pv 0) (pa_cons (pe_bltn (v := .ty "str") (by rfl) B.str (by decide +kernel) rfl) pa_nil))))) (pss_one (ps_ret (pd_tup (pds_cons (pd_tup (pds_cons (pd_str pe_str) (pds_cons (pd_str pe_str) (pds_cons (pd_int pe_int) (pds_cons (pd_int pe_int) pds_nil))))) pds_nil)))) pss_nil)
      (pss_one (ps_ret (pe_callTy call_tupS (by rfl) B.tuple (by decide +kernel) (pa_cons (pe_fn cIn hG (hr.mono (by decide)) pass0 (pa_cons (pv 0) pa_nil)) pa_nil))))), ?_⟩
    refine ⟨_, rfl, _, .ty "str", t, .type "str", b, rfl, .ty "str", ty, kit, ?_⟩
    cases b with
    | true =>
      obtain ⟨x, rfl, fx, fin⟩ := h1 rfl
      refine ⟨_, rfl, ite2 (fun z => Bool.noConfusion (show false = true from z)) (fun _ => ?_)⟩
      refine ⟨_, rfl, x, rfl, fx, fun q H' nq s' l => ⟨_, _, rfl, l.sq, fun z H2 s2 t2 => fin z H2 (s'.trans s2) t2⟩⟩
    | false =>
      have fin := h2 rfl
      refine ⟨_, rfl, ite2 (fun _ => ?_) (fun z => absurd rfl z)⟩
      exact ⟨[], _, .nil, rfl, fin⟩
end

end Og

set_option Elab.async false
set_option linter.all false
set_option maxRecDepth 100000
set_option maxHeartbeats 8000000
namespace Og
open PySem L2
open TL
def spRowOf : Sp := fun vs H Q _ => ∃ (x S : Str) (n : Nat), vs = [.str x, .int n, .str S] ∧ Fits x ∧ n ≤ (tl x).length ∧ Q (.int ((row S ((tl x).drop n) : Nat) : Int)) H
theorem ones_in {c : Nat} : c ∈ tl ("(),;:=/ " : Str) ↔ c ∈ tl ONEs ∨ c = 32 := by
  have e : tl ("(),;:=/ " : Str) = tl ONEs ++ [32] := by decide +kernel
  rw [e, List.mem_append, List.mem_singleton]
theorem num_ne : ("number" : Str) ≠ "bad" := by decide +kernel
theorem sign_ne : ("sign" : Str) ≠ "bad" := by decide +kernel
theorem digs_e : ("0123456789" : Str) = DIGs := rfl
theorem not_let32 : ¬ 32 ∈ tl LETs := by decide +kernel
theorem not_dig32 : ¬ 32 ∈ tl DIGs := by decide +kernel
section
variable {P : Program} {w : World} {K : PySem.W.Frag} {mg : Str → Option Value} {base : Heap}
theorem scRowOf : FnScope ["line", "at", "signs", "many"] ["line", "at", "signs"] (defScope sRowOf) := ⟨rfl, rfl, rfl, by decide +kernel, rfl, by decide +kernel, by decide +kernel⟩
theorem ok_RowOf (D : DefAt K mg "_law_row_of" sRowOf) (B : Blt mg)  : Callee P w K mg base CX0 "_law_row_of" 1 ["line", "at", "signs"] spRowOf := by
  refine callee_of D scRowOf (fun _ _ _ _ _ _ us hl => match us, hl with | [_, _, _], _ => rfl) (fun vs H Q E h => ?_) (fun f cdv A outer s H vs Q E hG hr h => ?_)
  · obtain ⟨x, S, n, rfl, _⟩ := h
    rfl
  · obtain ⟨x, S, n, rfl, hx, hn, q⟩ := h
    have hu : (A.deeper (PyProof.Rows.envOfC "_law_row_of" (defScope sRowOf) s.heap.objs.size f cdv)).units + 64 < cLine := hr.units
    have hu1 : (A.deeper (PyProof.Rows.envOfC "_law_row_of" (defScope sRowOf) s.heap.objs.size f cdv)).units + 1 < cLine := by omega
    have hu2 : (A.deeper (PyProof.Rows.envOfC "_law_row_of" (defScope sRowOf) s.heap.objs.size f cdv)).units < cLine := by omega
    refine ⟨_, (pss_cons (ps_set (i := 3) scRowOf.nd rfl (Or.inl rfl) pe_int)
      (pss_cons (ps_while PassesOwn.never (PW.pt (pw_and (pt_cmpR op_lt (pe_op op_add (pv 1) (pv 3)) (pe_callB call_len_str (by rfl) B.len (by decide +kernel) (pa_cons (pv 0) pa_nil)) (nomark _)) (pw_and1 (pt_cmpR op_in_sign (pe_ix ix_str (pv 0) (pe_op op_add (pv 1) (pv 3)) (fun _ _ => rfl)) (pv 2) rfl)))) (pss_one (ps_set (i := 3) scRowOf.nd rfl (Or.inl rfl) (pe_op op_add (pv 3) pe_int))))
      (pss_one (ps_ret (pv 3))))), ?_⟩
    have hl := fits_line hx
    have hlen := len_tl x
    refine ⟨fun m σ' H' => ∃ e : Nat, σ' = [some (.str x), some (.int n), some (.str S), some (.int e)] ∧ H' = H ∧ n + e ≤ (tl x).length ∧ m = (tl x).length - (n + e) ∧ e + row S ((tl x).drop (n + e)) = row S ((tl x).drop n), ⟨_, 0, rfl, rfl, hn, rfl, by rw [Nat.zero_add, Nat.add_zero]⟩, ?_⟩
    rintro m σ' H' ⟨e, rfl, rfl, h2, rfl, h3⟩
    have ecast : (n : Int) + (e : Int) = ((n + e : Nat) : Int) := rfl
    refine ⟨_, rfl, _, rfl, _, _, rfl, rfl, _, rfl, x, rfl, by omega, _, _, rfl, rfl, _, rfl, ite2 (fun h => ?_) (fun h => ite2 (fun z => Bool.noConfusion (show false = true from z)) (fun _ => ?_))⟩
    · have he : n + e < (tl x).length := by
        have z := Int.ofNat_lt.mp (of_decide_eq_true h)
        omega
      have ed : (tl x).drop (n + e) = (tl x)[n + e] :: (tl x).drop (n + (e + 1)) := List.drop_eq_getElem_cons he
      refine ⟨_, rfl, _, rfl, _, rfl, _, _, rfl, rfl, x, _, (tl x)[n + e], rfl, rfl, by omega, sign_at he, _, rfl, (tl x)[n + e], S, rfl, rfl, _, rfl, ite2 (fun hc => ?_) (fun hc => ?_)⟩
      · have hc2 := of_decide_eq_true hc
        refine ⟨fun σ1 H1 => ∃ m', m' < (tl x).length - (n + e) ∧ ∃ e : Nat, σ1 = [some (.str x), some (.int n), some (.str S), some (.int e)] ∧ H1 = H' ∧ n + e ≤ (tl x).length ∧ m' = (tl x).length - (n + e) ∧ e + row S ((tl x).drop (n + e)) = row S ((tl x).drop n), fun σ1 H1 z => z, ?_⟩
        refine ⟨_, rfl, _, _, rfl, rfl, (tl x).length - (n + (e + 1)), by omega, e + 1, rfl, rfl, by omega, rfl, ?_⟩
        rw [← h3, ed, row_step, if_pos hc2]
        omega
      · have hc2 : ¬ (tl x)[n + e] ∈ tl S := fun z => hc (decide_eq_true z)
        refine ⟨_, rfl, ?_⟩
        rw [ed, row_step, if_neg hc2] at h3
        have h4 : row S ((tl x).drop n) = e := by omega
        rw [h4] at q
        exact q
    · have he : n + e = (tl x).length := by
        have z : ¬ ((n + e : Nat) : Int) < (x.length : Int) := fun z => h (decide_eq_true z)
        omega
      refine ⟨_, rfl, ?_⟩
      rw [he, List.drop_length, row_nil] at h3
      have h4 : row S ((tl x).drop n) = e := by omega
      rw [h4] at q
      exact q
end
section
variable {P : Program} {w : World} {K : PySem.W.Frag} {mg : Str → Option Value} {base : Heap}
theorem scWords : FnScope ["text", "letters", "found", "lines", "number", "line", "at", "many", "word"] ["text"] (defScope sWords) := ⟨rfl, rfl, rfl, by decide +kernel, rfl, by decide +kernel, by decide +kernel⟩
theorem ok_Words (D : DefAt K mg "_law_words" sWords) (B : Blt mg) (cRow : Callee P w K mg base CX0 "_law_row_of" 1 ["line", "at", "signs"] spRowOf) : Callee P w K mg base CX0 "_law_words" 2 ["text"] (spWordsIn K) := by
  refine callee_of D scWords (fun _ _ _ _ _ _ us hl => match us, hl with | [_], _ => rfl) (fun vs H Q E h => ?_) (fun f cdv A outer s H vs Q E hG hr h => ?_)
  · obtain ⟨x, rfl, _⟩ := h
    rfl
  · obtain ⟨x, rfl, hx, fin⟩ := h
    have hu : (A.deeper (PyProof.Rows.envOfC "_law_words" (defScope sWords) s.heap.objs.size f cdv)).units + 64 < cLine := hr.units
    have hu1 : (A.deeper (PyProof.Rows.envOfC "_law_words" (defScope sWords) s.heap.objs.size f cdv)).units + 1 < cLine := by omega
    have hu2 : (A.deeper (PyProof.Rows.envOfC "_law_words" (defScope sWords) s.heap.objs.size f cdv)).units < cLine := by omega
    refine ⟨_, (pss_cons (ps_par (i := 1) (j := 2) rfl scWords.nd rfl rfl (by decide) rfl rfl (pa_cons pe_str (pa_cons (pe_lst pa_nil) pa_nil)) (by rfl))
      (pss_cons (ps_set (i := 3) scWords.nd rfl (Or.inl rfl) (pe_split (pv 0) pe_str))
      (pss_cons (ps_for PassesOwn.never rfl (pi_range1 rfl B.range (pa_cons (pe_callB call_lenS (by rfl) B.len (by decide +kernel) (pa_cons (pv 3) pa_nil)) pa_nil)) (pg_name (i := 4) scWords.nd rfl (Or.inl rfl)) (pss_cons (ps_par (i := 5) (j := 6) rfl scWords.nd rfl rfl (by decide) rfl rfl (pa_cons (pe_ix ix_sq (pv 3) (pv 4) (fun _ _ => rfl)) (pa_cons pe_int pa_nil)) (by rfl))
      (pss_one (ps_while PassesOwn.never (PW.pt (pw_and (pt_cmpR op_lt (pv 6) (pe_callB call_len_str (by rfl) B.len (by decide +kernel) (pa_cons (pv 5) pa_nil)) (nomark _)) (pw_and1 (pt_cmpR op_ne (pe_ix ix_str (pv 5) (pv 6) (fun _ _ => rfl)) pe_str (nomark _))))) (pss_cons (ps_asg (pe_tup (pa_cons pe_int (pa_cons pe_str pa_nil))) (pg_tup rfl (pgs_cons (pg_name (i := 7) scWords.nd rfl (Or.inl rfl)) (pgs_cons (pg_name (i := 8) scWords.nd rfl (Or.inl rfl)) pgs_nil))))
      (C8.pss_cut (ps_if (pt_cmpR op_in_sign (pe_ix ix_str (pv 5) (pv 6) (fun _ _ => rfl)) (pv 1) rfl) (pss_cons (ps_set (i := 7) scWords.nd rfl (Or.inl rfl) (pe_fn cRow hG (hr.mono (by decide)) pass0 (pa_cons (pv 5) (pa_cons (pv 6) (pa_cons (pe_op op_add_str (pv 1) pe_str) pa_nil)))))
      (pss_cons (ps_set (i := 8) scWords.nd rfl (Or.inl rfl) (pe_ifExp (pt_cmpR op_in_seq (pe_slice sl_str (pv 5) (po_some (pv 6)) (po_some (pe_op op_add (pv 6) (pv 7)))) (pe_tup (pa_cons pe_str (pa_cons pe_str (pa_cons pe_str (pa_cons pe_str (pa_cons pe_str (pa_cons pe_str (pa_cons pe_str (pa_cons pe_str (pa_cons pe_str pa_nil)))))))))) (by rfl)) pe_str pe_str))
      (pss_one (ps_if (pt_cmpR op_gt (pv 7) pe_int (nomark _)) (pss_one (ps_ret (pe_op op_catL (pv 2) (pe_lst (pa_cons (pe_tup (pa_cons pe_str (pa_cons pe_str (pa_cons (pv 4) (pa_cons (pv 6) pa_nil))))) pa_nil))))) pss_nil)))) (pss_one (ps_if (pt_cmpR op_in_sign (pe_ix ix_str (pv 5) (pv 6) (fun _ _ => rfl)) pe_str rfl) (pss_cons (ps_par (i := 7) (j := 8) rfl scWords.nd rfl rfl (by decide) rfl rfl (pa_cons (pe_fn cRow hG (hr.mono (by decide)) pass0 (pa_cons (pv 5) (pa_cons (pv 6) (pa_cons pe_str pa_nil)))) (pa_cons pe_str pa_nil)) (by rfl))
      (pss_one (ps_if (PW.pt (pw_or (pt_cmpR op_gt (pv 7) pe_int (nomark _)) (pw_or1 (PW.pt (pw_and (pt_cmpR op_gt (pv 7) pe_int (nomark _)) (pw_and1 (pt_cmpR op_eq (pe_ix ix_str (pv 5) (pv 6) (fun _ _ => rfl)) pe_str (nomark _)))))))) (pss_one (ps_ret (pe_op op_catL (pv 2) (pe_lst (pa_cons (pe_tup (pa_cons pe_str (pa_cons pe_str (pa_cons (pv 4) (pa_cons (pv 6) pa_nil))))) pa_nil))))) pss_nil))) (pss_one (ps_if (pt_cmpR op_eq (pe_slice sl_str (pv 5) (po_some (pv 6)) (po_some (pe_op op_add (pv 6) pe_int))) pe_str (nomark _)) (pss_one (ps_set (i := 7) scWords.nd rfl (Or.inl rfl) pe_int)) (pss_one (ps_if (pt_cmpR op_notIn_sign (pe_ix ix_str (pv 5) (pv 6) (fun _ _ => rfl)) pe_str rfl) (pss_one (ps_ret (pe_op op_catL (pv 2) (pe_lst (pa_cons (pe_tup (pa_cons pe_str (pa_cons pe_str (pa_cons (pv 4) (pa_cons (pv 6) pa_nil))))) pa_nil))))) pss_nil)))))))
      (pss_cons (ps_if (pt_cmpR op_ne (pe_ix ix_str (pv 5) (pv 6) (fun _ _ => rfl)) pe_str (nomark _)) (pss_one (ps_expr (pe_bm PySem.F.plainAttrs_list PySem.F.slot_list_append PySem.F.type_list_append mt_append (pv 2) (pa_cons (pe_tup (pa_cons (pv 8) (pa_cons (pe_slice sl_str (pv 5) (po_some (pv 6)) (po_some (pe_op op_add (pv 6) (pv 7)))) (pa_cons (pv 4) (pa_cons (pv 6) pa_nil))))) pa_nil)))) pss_nil)
      (pss_one (ps_set (i := 6) scWords.nd rfl (Or.inl rfl) (pe_op op_add (pv 6) (pv 7)))))))))))
      (pss_one (ps_ret (pe_op op_catL (pv 2) (pe_lst (pa_cons (pe_tup (pa_cons pe_str (pa_cons pe_str (pa_cons (pe_op op_sub (pe_callB call_lenS (by rfl) B.len (by decide +kernel) (pa_cons (pv 3) pa_nil)) pe_int) (pa_cons (pe_callB call_len_str (by rfl) B.len (by decide +kernel) (pa_cons (pe_ix ix_sq (pv 3) (pe_un un_neg pe_int) (fun _ _ => rfl)) pa_nil)) pa_nil))))) pa_nil)))))))), ?_⟩
    have hl := fits_line hx
    have hlen := len_tl x
    have big : 1000002 ≤ sizeLine := by decide
    refine ⟨by show 0 ≤ sizeLine; omega, fun q nq => ⟨_, _, rfl, ?_⟩⟩
    have sq := Same.new (o := .lst []) nq
    refine ⟨_, rfl, ⟨_, rfl⟩, x, "\n", rfl, rfl, by decide +kernel, hl, fun ql nql => ?_⟩
    have sl := split_lines x
    generalize hL : Txt.split x "\n" = L at sl ⊢
    generalize hls : linesOf (tl x) = ls at sl
    have sql := Same.new (o := .lst (L.map V.str)) nql
    have nqlq : ql ≠ q := fun e => by
      rw [e, upd_same] at nql
      cases nql
    have lsum : (ls.map List.length).sum + ls.length = (tl x).length + 1 := by
      rw [← hls]
      have z := spl_sum (s := 10) (tl x) []
      rw [List.length_nil, Nat.zero_add] at z
      exact z
    have lne : ls ≠ [] := by
      rw [← hls]
      exact spl_ne _ _
    have hLl : L.length = ls.length := by rw [← sl, List.length_map]
    have tot := linesW_len ls 0
    have hx2 : x.length ≤ 1000000 := hx
    have lL0 : LsAt K (upd (upd H q (.lst [])) ql (.lst (L.map V.str))) ql (L.map .str) := ls_new nql (tpAll_strs L)
    have w0 : WdSt K (upd (upd H q (.lst [])) ql (.lst (L.map V.str))) (upd (upd H q (.lst [])) ql (.lst (L.map V.str))) q [] := ⟨⟨[], by rw [upd_ne nqlq.symm, upd_same], .nil⟩, Ext.refl _⟩
    have sH0 : Same H (upd (upd H q (.lst [])) ql (.lst (L.map V.str))) := sq.trans sql
    have nt : NoTup (upd (upd H q (.lst [])) ql (.lst (L.map V.str))) [q] := .list (by rw [upd_ne nqlq.symm, upd_same]) .nil
    generalize hH0 : upd (upd H q (.lst [])) ql (.lst (L.map V.str)) = H0 at lL0 w0 sH0 nt ⊢
    have lLx : ∀ {H' : Hp}, Ext [q] H0 H' → LsAt K H' ql (L.map .str) := fun x => lL0.ext x nt (by simpa using nqlq)
    have whole : ∀ {H' : Hp}, Ext [q] H0 H' → Same H H' := fun x b o e => x b o (sH0 b o e) (by simpa using ne_of_none e nq)
    refine ⟨_, rfl, _, _, rfl, lL0.sq, _, rfl, by rw [List.length_map]; omega, by rw [List.length_map]; omega, ?_⟩
    rw [List.length_map]
    refine for_it (walk_range0 (n := L.length)) (fun i σ' H' => ∃ (toks : List Tok) (v3 v4 v5 v6 v7 : Option V), σ' = [some (.str x), some (.str LETs), some (.ref q), some (.ref ql), v3, v4, v5, v6, v7] ∧ WdSt K H0 H' q toks ∧
      toks ++ (linesW i (ls.drop i)).1 = (linesW 0 ls).1 ∧ (linesW i (ls.drop i)).2 = (linesW 0 ls).2) ?_ ?_ ?_ ?_
    · exact ⟨[], _, _, _, _, _, rfl, w0, rfl, rfl⟩
    · intro i σ' H' hi _
      exact True.intro
    · rintro i y σ' H1 H1' hi ⟨toks, v3, v4, v5, v6, v7, rfl, st, e1, e2⟩ ⟨rfl, rfl⟩
      have hi2 : i < ls.length := by omega
      refine ⟨_, rfl, _, rfl, _, _, .str L[i], (lLx st.x).sq, rfl, atI_nat (by rw [List.getElem?_map, List.getElem?_eq_getElem hi]; rfl), fun v t => ⟨_, _, rfl, ?_⟩⟩
      have ev := t.str_inv
      subst ev
      have ecs : tl L[i] = ls[i] := by
        have z : (L.map tl)[i]? = ls[i]? := by rw [sl]
        rw [List.getElem?_map, List.getElem?_eq_getElem hi, List.getElem?_eq_getElem hi2] at z
        exact Option.some.inj z
      have ed : ls.drop i = tl L[i] :: ls.drop (i + 1) := by rw [ecs]; exact List.drop_eq_getElem_cons hi2
      generalize hline : L[i] = line at ecs ed ⊢
      have fl : Fits line := by
        have z := mem_sum (List.mem_map.mpr ⟨ls[i], List.getElem_mem hi2, rfl⟩ : ls[i].length ∈ ls.map List.length)
        rw [← ecs, ← len_tl] at z
        unfold Fits
        omega
      have hll := fits_line fl
      have hlenl := len_tl line
      rw [ed] at e1 e2
      generalize hT : toks ++ (lineW 0 (tl line)).1.map (atLine i) = T0
      have hT1 : ∃ more, T0 ++ more = (linesW 0 ls).1 := by
        rw [← hT, ← e1]
        rw [linesW_cons]
        split
        · exact ⟨[], by simp⟩
        · exact ⟨(linesW (i + 1) (ls.drop (i + 1))).1, by simp⟩
      have hTl : T0.length ≤ 1000000 := by
        obtain ⟨more, e⟩ := hT1
        have z := congrArg List.length e
        rw [List.length_append] at z
        omega
      refine ⟨fun m σ' H' => ∃ (a : Nat) (tk : List Tok) (v6 v7 : Option V), σ' = [some (.str x), some (.str LETs), some (.ref q), some (.ref ql), some (.int i), some (.str line), some (.int a), v6, v7] ∧ WdSt K H0 H' q tk ∧ a ≤ (tl line).length ∧ m = (tl line).length - a ∧
        tk ++ (lineW a ((tl line).drop a)).1.map (atLine i) = T0 ∧ (lineW a ((tl line).drop a)).2 = (lineW 0 (tl line)).2, ⟨_, 0, toks, _, _, rfl, st, Nat.zero_le _, rfl, hT, rfl⟩, ?_⟩
      rintro m σ' H2 ⟨a, tk, v6, v7, rfl, st2, ha, rfl, g1, g2⟩
      have done : ∀ {v6 v7 : Option V}, lineW a ((tl line).drop a) = ([], false) → ∃ (toks : List Tok) (v3 v4 v5 v6' v7' : Option V), [some (V.str x), some (.str LETs), some (.ref q), some (.ref ql), some (.int i), some (.str line), some (.int a), v6, v7] = [some (V.str x), some (.str LETs), some (.ref q), some (.ref ql), v3, v4, v5, v6', v7'] ∧ WdSt K H0 H2 q toks ∧
          toks ++ (linesW (i + 1) (ls.drop (i + 1))).1 = (linesW 0 ls).1 ∧ (linesW (i + 1) (ls.drop (i + 1))).2 = (linesW 0 ls).2 := by
        intro v6 v7 h
        rw [h] at g1 g2
        have g3 : tk = T0 := by simpa using g1
        have g4 : (lineW 0 (tl line)).2 = false := g2.symm
        rw [linesW_cons, g4, if_neg Bool.false_ne_true] at e1 e2
        refine ⟨tk, _, _, _, _, _, rfl, st2, ?_, e2⟩
        rw [g3, ← hT, List.append_assoc]
        exact e1
      refine ⟨_, rfl, _, rfl, line, rfl, by omega, _, _, rfl, rfl, _, rfl, ite2 (fun h => ?_) (fun h => ite2 (fun z => Bool.noConfusion (show false = true from z)) (fun _ => ?_))⟩
      · have hal : a < (tl line).length := by
          have z := Int.ofNat_lt.mp (of_decide_eq_true h)
          omega
        have eda : (tl line).drop a = (tl line)[a] :: (tl line).drop (a + 1) := List.drop_eq_getElem_cons hal
        have ix : ∀ {Q' : VK} {H' : Hp}, Q' (.str ⟨#[(tl line)[a]]⟩) H' → rIxS (.str line) (.int a) H' Q' := fun q => ⟨line, a, (tl line)[a], rfl, rfl, by omega, sign_at hal, q⟩
        generalize hc : (tl line)[a] = c at eda ix
        refine ⟨_, rfl, _, rfl, ix ⟨rfl, _, rfl, ite2 (fun h3 => ?_) (fun h3 => ?_)⟩⟩
        · have h35 : c ≠ 35 := fun z => by
            have w := (sgn_eq hash_s).mpr z
            rw [w] at h3
            cases h3
          refine ⟨fun σ1 H1 => ∃ m', m' < (tl line).length - a ∧ ∃ (a : Nat) (tk : List Tok) (v6 v7 : Option V), σ1 = [some (.str x), some (.str LETs), some (.ref q), some (.ref ql), some (.int i), some (.str line), some (.int a), v6, v7] ∧ WdSt K H0 H1 q tk ∧ a ≤ (tl line).length ∧ m' = (tl line).length - a ∧
            tk ++ (lineW a ((tl line).drop a)).1.map (atLine i) = T0 ∧ (lineW a ((tl line).drop a)).2 = (lineW 0 (tl line)).2, fun σ1 H1 z => z, ?_⟩
          have two : 20 ≤ sizeLine := by omega
          refine ⟨by show 2 ≤ sizeLine; omega, fun r1 n1 => ⟨r1, _, rfl, SqT.of upd_same, rfl, _, _, rfl, _, _, rfl, rfl, ?_⟩⟩
          have st3 := st2.same (Same.new (o := .tup [V.int 1, .str "sign"]) n1)
          generalize upd H2 r1 (.tup [V.int 1, .str "sign"]) = H3 at st3
          have el : (c :: (tl line).drop (a + 1)).length = (tl line).length - a := by rw [← eda, List.length_drop]
          have ed2 : ∀ k, (c :: (tl line).drop (a + 1)).drop k = (tl line).drop (a + k) := fun k => by rw [← eda, drop_two]
          have cut : ∀ k, cutS line (some (a : Int)) (some ((a : Int) + (k : Nat))) = mkS ((c :: (tl line).drop (a + 1)).take k) := fun k => by
            rw [show ((a : Int) + (k : Nat)) = ((a + k : Nat) : Int) from rfl, cutS_over line a (a + k) (by omega) (by omega), eda, Nat.add_sub_cancel_left]
          have eda2 : ∀ (p : Cs → Prop), p (c :: (tl line).drop (a + 1)) → p ((tl line).drop a) := fun p h => by rw [eda]; exact h
          generalize hr : (tl line).drop (a + 1) = r at eda el ed2 cut
          have bad : ∀ {w : Str} {H' : Hp} {z : V}, wordW (c :: r) = (("bad", w) : Str × Str) → c ≠ 32 → WdSt K H0 H' q tk → Tp K H' z (.tuple [.str "bad", .str w, .int (i : Nat), .int (a : Nat)]) → ∀ p H2, H' p = none → Same H' H2 → LsAt K H2 p (tk.map tokD ++ [.tuple [.str "bad", .str w, .int (i : Nat), .int (a : Nat)]]) → Q (.ref p) H2 := by
            intro w H' z hw h32 st' tz p H2 np s2 l2
            have hb : (wordW (c :: r)).1 = "bad" := by rw [hw]
            rw [eda, lineW_bad h35 h32 hb] at g1 g2
            have g4 : (lineW 0 (tl line)).2 = true := g2.symm
            rw [linesW_cons, g4, if_pos rfl] at e1 e2
            refine fin p H2 ((whole st'.x).free np) ((whole st'.x).trans s2) ?_
            unfold wordsW
            rw [hls, if_pos e2.symm, ← e1, hT, ← g1, hw, List.map_append]
            exact l2
          have tkl : tk.length ≤ 1000000 := by
            have z := congrArg List.length g1
            rw [List.length_append] at z
            omega
          have one : ∀ {w : Str} {H' : Hp}, WdSt K H0 H' q tk → wordW (c :: r) = (("bad", w) : Str × Str) → c ≠ 32 → 4 ≤ sizeLine ∧ ∀ p, H' p = none → 1 ≤ sizeLine ∧ ∀ p2, (upd H' p (.tup [V.str "bad", .str w, .int (i : Nat), .int (a : Nat)])) p2 = none → ∃ l m ds es, V.ref q = .ref l ∧ V.ref p2 = .ref m ∧ LsAt K (upd (upd H' p (.tup [V.str "bad", .str w, .int (i : Nat), .int (a : Nat)])) p2 (.lst [V.ref p])) l ds ∧ LsAt K (upd (upd H' p (.tup [V.str "bad", .str w, .int (i : Nat), .int (a : Nat)])) p2 (.lst [V.ref p])) m es ∧ ds.length + es.length ≤ sizeLine ∧ ∀ p3 H4, (upd (upd H' p (.tup [V.str "bad", .str w, .int (i : Nat), .int (a : Nat)])) p2 (.lst [V.ref p])) p3 = none → Same (upd (upd H' p (.tup [V.str "bad", .str w, .int (i : Nat), .int (a : Nat)])) p2 (.lst [V.ref p])) H4 → LsAt K H4 p3 (ds ++ es) → Q (.ref p3) H4 := by
            intro w H' st' hw h32
            refine ⟨by omega, fun p np => ⟨by omega, fun p2 np2 => ?_⟩⟩
            have sa := Same.new (o := .tup [V.str "bad", .str w, .int (i : Nat), .int (a : Nat)]) np
            have sb := Same.new (o := .lst [V.ref p]) np2
            have tz : Tp K _ (.ref p) (.tuple [.str "bad", .str w, .int (i : Nat), .int (a : Nat)]) := tp_new np (.cons (.str _) (.cons (.str _) (.cons (.int _) (.cons (.int _) .nil))))
            have st5 := (st'.same sa).same sb
            exact ⟨q, p2, _, _, rfl, rfl, st5.ls, ls_new np2 (.one tz), by rw [List.length_map]; show _ + 1 ≤ _; omega, fun p3 H4 np3 s4 l4 => bad hw h32 st5 (tz.same sb) p3 H4 np3 s4 l4⟩
          refine ⟨fun σ1 H' => ∃ (n : Nat) (sw : Str), σ1 = [some (.str x), some (.str LETs), some (.ref q), some (.ref ql), some (.int i), some (.str line), some (.int a), some (.int n), some (.str sw)] ∧ WdSt K H0 H' q tk ∧ ((c = 32 ∧ n = 1) ∨ (c ≠ 32 ∧ (wordW (c :: r)).1 ≠ "bad" ∧ sw = (wordW (c :: r)).1 ∧ n = (wordW (c :: r)).2.length)), ?_, ?_⟩
          · refine ⟨_, rfl, _, rfl, ix ⟨_, rfl, c, LETs, rfl, rfl, _, rfl, ite2 (fun h4 => ?_) (fun h4 => ?_)⟩⟩
            · have hL1 : c ∈ tl LETs := of_decide_eq_true h4
              have h32 : c ≠ 32 := fun z => not_let32 (by rw [← z]; exact hL1)
              have hw : wordW (c :: r) = letW (c :: r) := by
                unfold wordW
                simp only
                rw [if_pos hL1]
              have rl := row_le SIGs (c :: r)
              have ml : (mkS ((c :: r).take (row SIGs (c :: r)))).length = row SIGs (c :: r) := by rw [mkS_len, List.length_take]; omega
              have tlen : ((c :: r).take (row SIGs (c :: r))).length = row SIGs (c :: r) := by rw [List.length_take]; omega
              refine ⟨_, rfl, _, rfl, _, rfl, _, _, rfl, rfl, by show LETs.length + TAILs.length ≤ sizeLine; decide +kernel, line, SIGs, a, rfl, fl, ha, ?_⟩
              rw [eda]
              refine ⟨_, rfl, _, rfl, _, rfl, _, rfl, _, rfl, _, _, rfl, rfl, _, rfl, line, rfl, by omega, by show 9 ≤ sizeLine; omega, fun r2 n2 => ⟨r2, OWNs.map V.str, rfl, .inr (SqT.of upd_same), rfl, strs_flat, _, rfl, ?_⟩⟩
              have st4 := st3.same (Same.new (o := .tup (OWNs.map V.str)) n2)
              have big2 : row SIGs (c :: r) > 12 → wordW (c :: r) = (("bad", "word") : Str × Str) := fun z => by
                rw [hw]
                unfold letW
                rw [if_pos (by rw [tlen]; exact z)]
              have tail : ∀ (sw : Str), ¬ row SIGs (c :: r) > 12 → wordW (c :: r) = (sw, mkS ((c :: r).take (row SIGs (c :: r)))) → sw ≠ "bad" → (c = 32 ∧ row SIGs (c :: r) = 1) ∨ (c ≠ 32 ∧ (wordW (c :: r)).1 ≠ "bad" ∧ sw = (wordW (c :: r)).1 ∧ row SIGs (c :: r) = (wordW (c :: r)).2.length) := fun sw _ e1 e2 => .inr ⟨h32, by rw [e1]; exact e2, by rw [e1], by rw [e1, ml]⟩
              refine ite2 (fun h5 => ?_) (fun h5 => ?_)
              · have h6 : mkS ((c :: r).take (row SIGs (c :: r))) ∈ OWNs := by
                  have z : inV (.str (cutS line (some (a : Int)) (some ((a : Int) + (row SIGs (c :: r) : Nat))))) (OWNs.map V.str) = true := h5
                  rw [cut, own_in] at z
                  exact of_decide_eq_true z
                refine ⟨_, rfl, _, _, rfl, rfl, _, rfl, ite2 (fun h7 => ?_) (fun h7 => ?_)⟩
                · exact ⟨_, rfl, _, rfl, _, rfl, one st4 (big2 (Int.ofNat_lt.mp (of_decide_eq_true h7))) h32⟩
                · have h8 : ¬ row SIGs (c :: r) > 12 := fun z => h7 (decide_eq_true (Int.ofNat_lt.mpr z))
                  refine ⟨row SIGs (c :: r), "own", rfl, st4, tail "own" h8 ?_ (by decide +kernel)⟩
                  rw [hw]
                  unfold letW
                  rw [if_neg (by rw [tlen]; exact h8), if_pos h6]
              · have h6 : ¬ mkS ((c :: r).take (row SIGs (c :: r))) ∈ OWNs := fun z => h5 (by
                  show inV (.str (cutS line (some (a : Int)) (some ((a : Int) + (row SIGs (c :: r) : Nat))))) (OWNs.map V.str) = true
                  rw [cut, own_in]
                  exact decide_eq_true z)
                refine ⟨_, rfl, _, _, rfl, rfl, _, rfl, ite2 (fun h7 => ?_) (fun h7 => ?_)⟩
                · exact ⟨_, rfl, _, rfl, _, rfl, one st4 (big2 (Int.ofNat_lt.mp (of_decide_eq_true h7))) h32⟩
                · have h8 : ¬ row SIGs (c :: r) > 12 := fun z => h7 (decide_eq_true (Int.ofNat_lt.mpr z))
                  refine ⟨row SIGs (c :: r), "name", rfl, st4, tail "name" h8 ?_ (by decide +kernel)⟩
                  rw [hw]
                  unfold letW
                  rw [if_neg (by rw [tlen]; exact h8), if_neg h6]
            have hL1 : ¬ c ∈ tl LETs := fun z => h4 (decide_eq_true z)
            refine ⟨_, rfl, _, rfl, ix ⟨c, DIGs, rfl, rfl, _, rfl, ite2 (fun h4 => ?_) (fun h4 => ?_)⟩⟩
            · have hD : c ∈ tl DIGs := of_decide_eq_true h4
              have h32 : c ≠ 32 := fun z => not_dig32 (by rw [← z]; exact hD)
              have hw : wordW (c :: r) = figW (c :: r) := by
                unfold wordW
                simp only
                rw [if_neg hL1, if_pos hD]
              have rl := row_le DIGs (c :: r)
              have ml : (mkS ((c :: r).take (row DIGs (c :: r)))).length = row DIGs (c :: r) := by rw [mkS_len, List.length_take]; omega
              have tlen : ((c :: r).take (row DIGs (c :: r))).length = row DIGs (c :: r) := by rw [List.length_take]; omega
              refine ⟨_, rfl, _, rfl, line, DIGs, a, rfl, fl, ha, ?_⟩
              rw [eda]
              refine ⟨_, _, rfl, ?_⟩
              have badN : row DIGs (c :: r) > 12 ∨ (row DIGs (c :: r) > 1 ∧ c = 48) → wordW (c :: r) = (("bad", "number") : Str × Str) := fun z => by
                rw [hw]
                unfold figW
                rw [if_pos (by rw [tlen]; exact z.imp id fun y => ⟨y.1, by rw [y.2]; rfl⟩)]
              have good : ¬ (row DIGs (c :: r) > 12 ∨ (row DIGs (c :: r) > 1 ∧ c = 48)) → (c = 32 ∧ row DIGs (c :: r) = 1) ∨ (c ≠ 32 ∧ (wordW (c :: r)).1 ≠ "bad" ∧ ("number" : Str) = (wordW (c :: r)).1 ∧ row DIGs (c :: r) = (wordW (c :: r)).2.length) := fun z => by
                have e : wordW (c :: r) = (("number", mkS ((c :: r).take (row DIGs (c :: r)))) : Str × Str) := by
                  rw [hw]
                  unfold figW
                  rw [if_neg (by rw [tlen]; exact fun y => z (y.imp id fun w => ⟨w.1, Option.some.inj w.2⟩))]
                exact .inr ⟨h32, by rw [e]; exact num_ne, by rw [e], by rw [e, ml]⟩
              refine ⟨_, rfl, _, _, rfl, rfl, _, rfl, ite2 (fun h7 => ?_) (fun h7 => ?_)⟩
              · exact ite2 (fun _ => ⟨_, rfl, _, rfl, _, rfl, one st3 (badN (.inl (Int.ofNat_lt.mp (of_decide_eq_true h7)))) h32⟩) (fun z => absurd rfl z)
              have h8 : ¬ row DIGs (c :: r) > 12 := fun z => h7 (decide_eq_true (Int.ofNat_lt.mpr z))
              refine ⟨_, rfl, _, _, rfl, rfl, _, rfl, ite2 (fun h9 => ?_) (fun h9 => ?_)⟩
              · have h10 : row DIGs (c :: r) > 1 := Int.ofNat_lt.mp (of_decide_eq_true h9)
                refine ⟨_, rfl, _, rfl, ix ⟨rfl, _, rfl, ite2 (fun h11 => ?_) (fun h11 => ?_)⟩⟩
                · exact ⟨_, rfl, _, rfl, _, rfl, one st3 (badN (.inr ⟨h10, (sgn_eq zero_s).mp h11⟩)) h32⟩
                · have hc48 : ¬ c = 48 := fun z => h11 ((sgn_eq zero_s).mpr z)
                  exact ⟨row DIGs (c :: r), "number", rfl, st3, good (fun z => z.elim h8 fun y => hc48 y.2)⟩
              · have h10 : ¬ row DIGs (c :: r) > 1 := fun z => h9 (decide_eq_true (Int.ofNat_lt.mpr z))
                refine ite2 (fun z => Bool.noConfusion (show false = true from z)) (fun _ => ?_)
                exact ⟨row DIGs (c :: r), "number", rfl, st3, good (fun z => z.elim h8 fun y => h10 y.1)⟩
            have hD : ¬ c ∈ tl DIGs := fun z => h4 (decide_eq_true z)
            refine ⟨_, rfl, _, rfl, _, rfl, _, rfl, _, _, rfl, rfl, _, rfl, line, rfl, by omega, rfl, _, rfl, ite2 (fun h4 => ?_) (fun h4 => ?_)⟩
            · have h33 : (c :: r).take 2 = [33, 61] := by
                have z := of_decide_eq_true h4
                injection z with z
                have z2 := congrArg tl z
                rw [show ((a : Int) + 2) = ((a : Int) + (2 : Nat)) from rfl, cut, tl_mkS] at z2
                exact z2.trans bang_tl
              have h32 : c ≠ 32 := fun z => by
                rw [z] at h33
                have y := List.head_eq_of_cons_eq h33
                cases y
              have e : wordW (c :: r) = (("sign", "!=") : Str × Str) := by
                unfold wordW
                simp only
                rw [if_neg hL1, if_neg hD, if_pos h33]
              exact ⟨2, "sign", rfl, st3, .inr ⟨h32, by rw [e]; exact sign_ne, by rw [e], by rw [e]; rfl⟩⟩
            have h33 : ¬ (c :: r).take 2 = [33, 61] := fun z => h4 (decide_eq_true (by
              rw [show ((a : Int) + 2) = ((a : Int) + (2 : Nat)) from rfl, cut, z]
              exact congrArg V.str (ext_tl bang_tl.symm)))
            refine ⟨_, rfl, _, rfl, ix ⟨c, "(),;:=/ ", rfl, rfl, _, rfl, ite2 (fun h4 => ?_) (fun h4 => ?_)⟩⟩
            · have h5 : ¬ (c ∈ tl ONEs ∨ c = 32) := fun z => by
                rw [decide_eq_true (ones_in.mpr z)] at h4
                cases h4
              have e : wordW (c :: r) = (("bad", "sign") : Str × Str) := by
                unfold wordW
                simp only
                rw [if_neg hL1, if_neg hD, if_neg h33, if_neg fun z => h5 (.inl z)]
              exact ⟨_, rfl, _, rfl, _, rfl, one st3 e fun z => h5 (.inr z)⟩
            · have h5 : c ∈ tl ONEs ∨ c = 32 := by
                by_cases z : c ∈ tl ("(),;:=/ " : Str)
                · exact ones_in.mp z
                · exfalso
                  refine h4 ?_
                  rw [decide_eq_false z]
                  rfl
              refine ⟨1, "sign", rfl, st3, ?_⟩
              by_cases h32 : c = 32
              · exact .inl ⟨h32, rfl⟩
              · have h6 : c ∈ tl ONEs := h5.elim id fun z => absurd z h32
                have e : wordW (c :: r) = (("sign", mkS [c]) : Str × Str) := by
                  unfold wordW
                  simp only
                  rw [if_neg hL1, if_neg hD, if_neg h33, if_pos h6]
                exact .inr ⟨h32, by rw [e]; exact sign_ne, by rw [e], by rw [e]; rfl⟩
          · rintro σ1 H4 ⟨n, sw, rfl, st4, hcase⟩
            refine ⟨_, rfl, _, rfl, ix ⟨rfl, _, rfl, ite2 (fun h4 => ?_) (fun h4 => ?_)⟩⟩
            · have h32 : c ≠ 32 := fun z => by
                have w := (sgn_eq blank_s).mpr z
                rw [w] at h4
                cases h4
              obtain ⟨_, hb, esw, en⟩ := hcase.resolve_left fun z => h32 z.1
              have wp := wordW_pos hb
              refine ⟨_, rfl, st4.ls.ty, _, rfl, _, rfl, _, rfl, _, rfl, _, rfl, _, rfl, _, _, rfl, rfl, _, rfl, line, rfl, by omega, _, rfl, _, rfl, by show 4 ≤ sizeLine; omega, fun p np => ?_⟩
              rw [cut]
              have sa := Same.new (o := .tup [V.str sw, .str (mkS ((c :: r).take n)), .int (i : Nat), .int (a : Nat)]) np
              have ew : mkS ((c :: r).take n) = (wordW (c :: r)).2 := by
                refine ext_tl ?_
                rw [tl_mkS, wp.2, en]
              have tz : Tp K (upd H4 p (.tup [V.str sw, .str (mkS ((c :: r).take n)), .int (i : Nat), .int (a : Nat)])) (.ref p) (tokD ((wordW (c :: r)).1, (wordW (c :: r)).2, i, a)) := by
                unfold tokD
                rw [← esw, ← ew]
                exact tp_new np (.cons (.str _) (.cons (.str _) (.cons (.int _) (.cons (.int _) .nil))))
              obtain ⟨ys, ey, ly, st5⟩ := (st4.same sa).put tz
              refine ⟨q, ys, .ref p, rfl, rfl, ey, by omega, ?_⟩
              rw [eda, lineW_word h35 h32 hb] at g1 g2
              have wl : (wordW (c :: r)).2.length ≤ (tl line).length - a := by
                have z := congrArg List.length wp.2
                rw [List.length_take, ← len_tl, el] at z
                omega
              rw [ed2] at g1 g2
              refine ⟨_, rfl, _, rfl, _, _, rfl, rfl, (tl line).length - (a + (wordW (c :: r)).2.length), by omega, a + (wordW (c :: r)).2.length, tk ++ [((wordW (c :: r)).1, (wordW (c :: r)).2, i, a)], some (.int n), some (.str sw), ?_, st5, by omega, rfl, ?_, g2⟩
              · rw [en]
                rfl
              · rw [List.append_assoc]
                exact g1
            · have h32 : c = 32 := by
                by_cases z : c = 32
                · exact z
                · exfalso
                  refine h4 ?_
                  have w : ¬ decide (V.str ⟨#[c]⟩ = V.str " ") = true := fun w => z ((sgn_eq blank_s).mp w)
                  rw [Bool.not_eq_true] at w
                  rw [w]
                  rfl
              have en : n = 1 := by
                rcases hcase with z | z
                · exact z.2
                · exact absurd h32 z.1
              subst en
              rw [eda, h32, lineW_blank, ← hr] at g1 g2
              exact ⟨_, rfl, _, rfl, _, _, rfl, rfl, _, by omega, a + 1, tk, _, _, rfl, st4, by omega, rfl, g1, g2⟩
        · have h35 : c = 35 := by
            by_cases z : c = 35
            · exact z
            · exfalso
              refine h3 ?_
              have w : ¬ decide (V.str ⟨#[c]⟩ = V.str "#") = true := fun w => z ((sgn_eq hash_s).mp w)
              rw [Bool.not_eq_true] at w
              rw [w]
              rfl
          exact done (by rw [eda, h35]; exact lineW_hash)
      · have hal : a = (tl line).length := by
          have z : ¬ (a : Int) < (line.length : Int) := fun z => h (decide_eq_true z)
          omega
        exact done (by rw [hal, List.drop_length]; rfl)
    rintro σ' H1 ⟨toks, v3, v4, v5, v6, v7, rfl, st, e1, e2⟩
    rw [hLl, List.drop_length] at e1 e2
    have e1 : toks = (linesW 0 ls).1 := by rw [← e1]; exact (List.append_nil _).symm
    have e2 : (linesW 0 ls).2 = false := e2.symm
    obtain ⟨lst, hlast⟩ : ∃ y, L.getLast? = some y := by
      cases h : L.getLast? with
      | some y => exact ⟨y, rfl⟩
      | none =>
        exfalso
        rw [List.getLast?_eq_none_iff] at h
        rw [h] at hLl
        exact lne (List.eq_nil_of_length_eq_zero hLl.symm)
    have lastls : ls.getLast?.getD [] = tl lst := by
      rw [← sl, List.getLast?_map, hlast]
      rfl
    have lpos : 0 < L.length := by
      cases L with
      | nil => cases hlast
      | cons _ _ => simp
    have lstl : lst.length ≤ 1000000 := by
      have m := List.mem_of_getLast? hlast
      have z := mem_sum (List.mem_map.mpr ⟨tl lst, by rw [← sl]; exact List.mem_map.mpr ⟨lst, m, rfl⟩, rfl⟩ : (tl lst).length ∈ ls.map List.length)
      rw [← len_tl] at z
      omega
    have lL1 := lLx st.x
    refine ⟨_, rfl, _, rfl, _, _, rfl, lL1.sq, _, _, rfl, rfl, _, rfl, _, rfl, _, -1, .str lst, lL1.sq, rfl, atI_last (by rw [List.getLast?_map, hlast]; rfl), fun v t => ?_⟩
    have ev := t.str_inv
    subst ev
    refine ⟨lst, rfl, by omega, by show 4 ≤ sizeLine; omega, fun q2 nq2 => ⟨by show 1 ≤ sizeLine; omega, fun q3 nq3 => ?_⟩⟩
    have s2 := Same.new (o := .tup [V.str "end", .str "", .int (((L.map PyData.str).length : Int) - 1), .int (lst.length : Int)]) nq2
    have tz : Tp K (upd H1 q2 (.tup [V.str "end", .str "", .int (((L.map PyData.str).length : Int) - 1), .int (lst.length : Int)])) (.ref q2) (tokD (endTok ls)) := by
      have ei : (((L.map PyData.str).length : Int) - 1) = ((ls.length - 1 : Nat) : Int) := by rw [List.length_map]; omega
      have el : (lst.length : Int) = (((ls.getLast?.getD []).length : Nat) : Int) := by rw [lastls, len_tl]
      unfold tokD endTok
      rw [← ei, ← el]
      exact tp_new nq2 (.cons (.str _) (.cons (.str _) (.cons (.int _) (.cons (.int _) .nil))))
    have s3 := Same.new (o := .lst [V.ref q2]) nq3
    have st5 := (st.same s2).same s3
    refine ⟨q, q3, _, _, rfl, rfl, st5.ls, ls_new nq3 (.one tz), by rw [List.length_map, e1]; show _ + 1 ≤ _; omega, fun p3 H4 np3 s4 l4 => fin p3 H4 ((whole st5.x).free np3) ((whole st5.x).trans s4) ?_⟩
    unfold wordsW
    rw [hls, if_neg (by rw [e2]; exact Bool.false_ne_true), ← e1, List.map_append]
    exact l4
end

end Og

set_option Elab.async false
set_option linter.all false
set_option maxRecDepth 100000
set_option maxHeartbeats 8000000
namespace Og
open PySem L2
open TL
abbrev wOpen : Str := "("
abbrev wClose : Str := ")"
abbrev wComma : Str := ","
abbrev wNot : Str := "not"
abbrev wEq : Str := "="
abbrev wNe : Str := "!="
abbrev wSlash : Str := "/"
abbrev wAnd : Str := "and"
abbrev wIf : Str := "if"
abbrev wNever : Str := "never"
abbrev wMay : Str := "may"
abbrev wCost : Str := "cost"
abbrev wKind : Str := "kind"
abbrev wTell : Str := "tell"
abbrev wSay : Str := "say"
abbrev wColon : Str := ":"
abbrev wSemi : Str := ";"
def Tm.word : Tm → Str
  | .any x => x
  | .item x => x
def atStr (xs : List Str) (i : Nat) : Str := (xs[i]?).getD Str.empty
def atomW (a : Atm) : List Str := [a.name] ++ (List.range a.terms.length).flatMap (fun i => [if i = 0 then wOpen else wComma, atStr (a.terms.map Tm.word) i]) ++ (if a.terms ≠ [] then [wClose] else [])
def partW : Pt → List Str
  | .so a => atomW a
  | .no a => [wNot] ++ atomW a
  | .same s t => [s.word, wEq, t.word]
  | .other s t => [s.word, wNe, t.word]
def rowW (xs : List Str) : List Str := (List.range xs.length).flatMap fun i => (if 0 < i then [wComma] else []) ++ [atStr xs i]
def numS (i : Int) : Str := Str.ofString (toString i)
def bodyW (first : Str) (b : List Pt) : List Str := (List.range b.length).flatMap fun i => [if 0 < i then wAnd else first] ++ ((b[i]?).map partW).getD []
def Fm.sort : Fm → Str
  | .rule _ _ => "rule"
  | .may _ _ => wMay
  | .never _ => wNever
  | .cost _ _ _ => wCost
def headW : Fm → List Str
  | .rule h _ => [] ++ atomW h
  | .may h _ => [wMay] ++ atomW h
  | .never _ => []
  | .cost n m _ => [wCost, numS n] ++ (if m ≠ 1 then [wSlash, numS m] else [])
def firstW : Fm → Str
  | .never _ => wNever
  | _ => wIf
def formW (f : Fm) : List Str := headW f ++ bodyW (firstW f) f.body
def kindsW (ks : Kds) : List Str := ks.flatMap fun k => [wKind, k.1, wColon] ++ rowW k.2 ++ [wSemi]
def tellsW (ts : Kds) : List Str := ts.flatMap fun t => [wTell, t.1] ++ (if t.2 ≠ [] then [wOpen] ++ rowW t.2 ++ [wClose] else []) ++ [wSemi]
def saysW (ss : List (Str × Fm)) : List Str := ss.flatMap fun s => [wSay, s.1, wColon] ++ formW s.2 ++ [wSemi]
def treeW (b : Bk) : List Str := kindsW b.kinds ++ tellsW b.tells ++ saysW b.says
def TmS (t : Tm) : Prop := PyData.strOk t.word = true
def AtmS (a : Atm) : Prop := a.terms.length ≤ 2 ∧ ∀ t ∈ a.terms, TmS t
def PtS (p : Pt) : Prop := ∀ a ∈ p.atom, AtmS a
structure FmS (f : Fm) : Prop where
  at' : ∀ a ∈ f.atoms, AtmS a
  len : f.body.length ≤ 5
  cost : ∀ n m b, f = .cost n m b → (n, m) ∈ costs
def RowS (xs : List Str) : Prop := xs.length ≤ 20
structure BkS (b : Bk) : Prop where
  k : b.kinds.length ≤ 20 ∧ ∀ k ∈ b.kinds, RowS k.2
  t : b.tells.length ≤ 20 ∧ ∀ k ∈ b.tells, RowS k.2 ∧ ∀ x ∈ k.2, PyData.strOk x = true
  s : b.says.length ≤ 20 ∧ ∀ s ∈ b.says, FmS s.2
def spWds {α : Type} (K : PySem.W.Frag) (enc : α → PyData) (ok : α → Prop) (f : α → List Str) : Sp := fun vs H Q _ => ∃ (a : α) (v : V), vs = [v] ∧ Tp K H v (enc a) ∧ ok a ∧
  ∀ (q : Addr) (H' : Hp), H q = none → Same H H' → LsAt K H' q ((f a).map .str) → Q (.ref q) H'
theorem lsS {K : PySem.W.Frag} {H : Hp} {q : Addr} (ws : List Str) : LsAt K (upd H q (.lst (ws.map V.str))) q (ws.map .str) := ⟨_, upd_same, tpAll_strs ws⟩
theorem flat_range_succ {α : Type} {f : Nat → List α} {i : Nat} : (List.range (i + 1)).flatMap f = (List.range i).flatMap f ++ f i := by
  rw [List.range_succ, List.flatMap_append]
  simp
theorem tm_ds {t : Tm} : ∃ s, t.d = .tuple [.str s, .str t.word] := by
  cases t with
  | any x => exact ⟨_, rfl⟩
  | item x => exact ⟨_, rfl⟩
theorem tm_sh {t : Tm} (h : TmS t) : ShB 1 t.d := by
  have a : PyData.strOk "any" = true := by decide +kernel
  have b : PyData.strOk "item" = true := by decide +kernel
  cases t with
  | any x =>
    refine ShB.tup fun d hd => ?_
    rcases so_mem hd with e | e
    · rw [e]
      exact .str a
    · rw [e]
      exact .str h
  | item x =>
    refine ShB.tup fun d hd => ?_
    rcases so_mem hd with e | e
    · rw [e]
      exact .str b
    · rw [e]
      exact .str h
theorem flat_len {α : Type} {f : Nat → List α} {k : Nat} (h : ∀ i, (f i).length ≤ k) : ∀ n, ((List.range n).flatMap f).length ≤ k * n
  | 0 => by simp
  | n + 1 => by
    rw [flat_range_succ, List.length_append, Nat.mul_succ]
    have := flat_len h n
    have := h n
    omega
/-- the words of a loop as far as it has come; they stand in a list that is new -/
structure WsSt (K : PySem.W.Frag) (H0 H : Hp) (q : Addr) (ws : List Str) : Prop where
  nq : H0 q = none
  s : Same H0 H
  l : LsAt K H q (ws.map .str)
theorem WsSt.same {K : PySem.W.Frag} {H0 H H' : Hp} {q : Addr} {ws : List Str} (h : WsSt K H0 H q ws) (s : Same H H') : WsSt K H0 H' q ws := ⟨h.nq, h.s.trans s, h.l.same s⟩
theorem WsSt.cat {K : PySem.W.Frag} {H0 H H2 : Hp} {q q2 : Addr} {ws vs : List Str} {Q : VK} (st : WsSt K H0 H q ws) (s : Same H H2) (l2 : LsAt K H2 q2 (vs.map .str)) (hl : ws.length + vs.length ≤ 100000) (k : ∀ p H', WsSt K H0 H' p (ws ++ vs) → Q (.ref p) H') :
    ∃ l m ds es, V.ref q = .ref l ∧ V.ref q2 = .ref m ∧ LsAt K H2 l ds ∧ LsAt K H2 m es ∧ ds.length + es.length ≤ sizeLine ∧ ∀ p H', H2 p = none → Same H2 H' → LsAt K H' p (ds ++ es) → Q (.ref p) H' := by
  have big : 100000 ≤ sizeLine := by decide
  have st2 := st.same s
  refine ⟨q, q2, _, _, rfl, rfl, st2.l, l2, by rw [List.length_map, List.length_map]; omega, fun p H' np s' l' => k p H' ⟨st2.s.free np, st2.s.trans s', ?_⟩⟩
  rw [List.map_append]
  exact l'
theorem atomW_len {a : Atm} (h : AtmS a) : (atomW a).length ≤ 6 := by
  have z2 := flat_len (f := fun i => [if i = 0 then wOpen else wComma, atStr (a.terms.map Tm.word) i]) (k := 2) (fun _ => Nat.le_refl _) a.terms.length
  have := h.1
  unfold atomW
  rw [List.length_append, List.length_append]
  have : (if a.terms ≠ [] then [wClose] else []).length ≤ 1 := by split <;> simp
  show 1 + _ + _ ≤ 6
  omega
theorem partW_len {p : Pt} (h : PtS p) : (partW p).length ≤ 7 := by
  cases p with
  | so a =>
    have := atomW_len (h a (by simp [Pt.atom]))
    show (atomW a).length ≤ 7
    omega
  | no a =>
    have := atomW_len (h a (by simp [Pt.atom]))
    show ([wNot] ++ atomW a).length ≤ 7
    rw [List.length_append]
    show 1 + _ ≤ 7
    omega
  | same s t => exact (by decide : 3 ≤ 7)
  | other s t => exact (by decide : 3 ≤ 7)
theorem WsSt.app {K : PySem.W.Frag} {H0 H H' : Hp} {q p : Addr} {ws vs : List Str} (st : WsSt K H0 H q ws) (np : H p = none) (s : Same H H') (l : LsAt K H' p (ws.map .str ++ vs.map .str)) : WsSt K H0 H' p (ws ++ vs) := by
  refine ⟨st.s.free np, st.s.trans s, ?_⟩
  rw [List.map_append]
  exact l
theorem len2 {ws vs : List Str} (h : ws.length + vs.length ≤ 100000) : (ws.map PyData.str).length + (vs.map PyData.str).length ≤ sizeLine := by
  have big : 100000 ≤ sizeLine := by decide
  rw [List.length_map, List.length_map]
  omega
theorem WsSt.fin {K : PySem.W.Frag} {H0 H : Hp} {q : Addr} {ws : List Str} {Q : VK} (st : WsSt K H0 H q ws) (fin : ∀ (q : Addr) (H' : Hp), H0 q = none → Same H0 H' → LsAt K H' q (ws.map .str) → Q (.ref q) H') : Q (.ref q) H := fin q H st.nq st.s st.l
section
variable {P : Program} {w : World} {K : PySem.W.Frag} {mg : Str → Option Value} {base : Heap}
theorem scAtomWords : FnScope ["atom", "words", "at"] ["atom"] (defScope sAtomWords) := ⟨rfl, rfl, rfl, by decide +kernel, rfl, by decide +kernel, by decide +kernel⟩
theorem ok_AtomWords (D : DefAt K mg "_law_atom_words" sAtomWords) (B : Blt mg)  : Callee P w K mg base CX0 "_law_atom_words" 1 ["atom"] (spWds K Atm.d AtmS atomW) := by
  refine callee_of D scAtomWords (fun _ _ _ _ _ _ us hl => match us, hl with | [_], _ => rfl) (fun vs H Q E h => ?_) (fun f cdv A outer s H vs Q E hG hr h => ?_)
  · obtain ⟨a, v, rfl, _⟩ := h
    rfl
  · obtain ⟨a, v, rfl, tv, hs, fin⟩ := h
    have hu : (A.deeper (PyProof.Rows.envOfC "_law_atom_words" (defScope sAtomWords) s.heap.objs.size f cdv)).units + 64 < cLine := hr.units
    have hu1 : (A.deeper (PyProof.Rows.envOfC "_law_atom_words" (defScope sAtomWords) s.heap.objs.size f cdv)).units + 1 < cLine := by omega
    have hu2 : (A.deeper (PyProof.Rows.envOfC "_law_atom_words" (defScope sAtomWords) s.heap.objs.size f cdv)).units < cLine := by omega
    refine ⟨_, (pss_cons (ps_set (i := 1) scAtomWords.nd rfl (Or.inl rfl) (pe_lst (pa_cons (pe_ix ix_sq (pv 0) pe_int (fun _ _ => rfl)) pa_nil)))
      (pss_cons (ps_for PassesOwn.never rfl (pi_range1 rfl B.range (pa_cons (pe_callB call_lenS (by rfl) B.len (by decide +kernel) (pa_cons (pe_ix ix_sq (pv 0) pe_int (fun _ _ => rfl)) pa_nil)) pa_nil)) (pg_name (i := 2) scAtomWords.nd rfl (Or.inl rfl)) (pss_one (ps_set (i := 1) scAtomWords.nd rfl (Or.inl rfl) (pe_op op_catL (pv 1) (pe_lst (pa_cons (pe_ifExp (pt_cmpR op_eq (pv 2) pe_int (nomark _)) pe_str pe_str) (pa_cons (pe_ix ix_sq (pe_ix ix_sq (pe_ix ix_sq (pv 0) pe_int (fun _ _ => rfl)) (pv 2) (fun _ _ => rfl)) pe_int (fun _ _ => rfl)) pa_nil)))))))
      (pss_one (ps_ret (pe_op op_catL (pv 1) (pe_ifExp (pt_cmpR (op_neT0 hu) (pe_ix ix_sq (pv 0) pe_int (fun _ _ => rfl)) (pd_tup pds_nil) (nomark _)) (pd_lst (pds_cons (pd_str pe_str) pds_nil)) (pe_lst pa_nil))))))), ?_⟩
    have two : 20 ≤ sizeLine := by decide
    have hl := hs.1
    have tv2 : Tp K H v (.tuple [.str a.name, termsD a.terms]) := tv
    have sqv : Sq K H v [.str a.name, termsD a.terms] := .inr tv2
    refine ⟨_, rfl, _, 0, .str a.name, sqv, rfl, atI0, fun x tx => ⟨by show 1 ≤ sizeLine; omega, fun q nq => ?_⟩⟩
    have ex := tx.str_inv
    subst ex
    have st0 : WsSt K H (upd H q (.lst [V.str a.name])) q [a.name] := ⟨nq, Same.new nq, lsS [a.name]⟩
    refine ⟨_, rfl, _, 1, termsD a.terms, (sqv.same st0.s), rfl, rfl, fun y ty => ⟨_, a.terms.map Tm.d, rfl, .inr ty, ?_⟩⟩
    rw [List.length_map]
    refine ⟨_, rfl, by omega, by omega, ?_⟩
    refine for_it (walk_range0 (n := a.terms.length)) (fun i σ' H' => ∃ (q : Addr) (w : Option V), σ' = [some v, some (.ref q), w] ∧ WsSt K H H' q ([a.name] ++ (List.range i).flatMap (fun i => [if i = 0 then wOpen else wComma, atStr (a.terms.map Tm.word) i])) ∧ i ≤ a.terms.length) ?_ ?_ ?_ ?_
    · exact ⟨q, _, rfl, st0, Nat.zero_le _⟩
    · intro i σ' H' hi _
      exact True.intro
    · rintro i z σ' H1 H1' hi ⟨q, w, rfl, st, _⟩ ⟨rfl, rfl⟩
      have step : ∀ {H2 : Hp} {q2 : Addr}, Same H1' H2 → H2 q2 = none → ∀ (sep : Str), sep = (if i = 0 then wOpen else wComma) → ∀ wd, wd = atStr (a.terms.map Tm.word) i →
          ∃ l m ds es, V.ref q = .ref l ∧ V.ref q2 = .ref m ∧ LsAt K (upd H2 q2 (.lst [V.str sep, .str wd])) l ds ∧ LsAt K (upd H2 q2 (.lst [V.str sep, .str wd])) m es ∧ ds.length + es.length ≤ sizeLine ∧ ∀ p H', (upd H2 q2 (.lst [V.str sep, .str wd])) p = none → Same (upd H2 q2 (.lst [V.str sep, .str wd])) H' → LsAt K H' p (ds ++ es) →
            ∃ (q : Addr) (w : Option V), [some v, some (V.ref p), some (.int (i : Nat))] = [some v, some (V.ref q), w] ∧ WsSt K H H' q ([a.name] ++ (List.range (i + 1)).flatMap (fun i => [if i = 0 then wOpen else wComma, atStr (a.terms.map Tm.word) i])) ∧ i + 1 ≤ a.terms.length := by
        intro H2 q2 s2 n2 sep hsep wd hwd
        have s3 := Same.new (o := .lst [V.str sep, .str wd]) n2
        have st3 := st.same (s2.trans s3)
        have z : (List.range i).length ≤ 2 := by rw [List.length_range]; omega
        refine ⟨q, q2, _, _, rfl, rfl, st3.l, lsS [sep, wd], ?_, fun p H' np s' l' => ⟨p, _, rfl, ⟨st3.s.free np, st3.s.trans s', ?_⟩, by omega⟩⟩
        · have z2 := flat_len (f := fun i => [if i = 0 then wOpen else wComma, atStr (a.terms.map Tm.word) i]) (k := 2) (fun _ => Nat.le_refl _) i
          rw [List.length_map, List.length_append]
          show 1 + _ + 2 ≤ sizeLine
          omega
        · rw [flat_range_succ, ← List.append_assoc, List.map_append, ← hsep, ← hwd]
          exact l'
      have hi2 : (a.terms.map Tm.d)[i]? = some a.terms[i].d := by rw [List.getElem?_map, List.getElem?_eq_getElem hi]; rfl
      obtain ⟨sd, esd⟩ := tm_ds (t := a.terms[i])
      have ewd : a.terms[i].word = atStr (a.terms.map Tm.word) i := by
        unfold atStr
        rw [List.getElem?_map, List.getElem?_eq_getElem hi]
        rfl
      refine ⟨_, rfl, _, rfl, rfl, _, rfl, ite2 (fun h => ?_) (fun h => ?_)⟩
      · have h0 : i = 0 := by
          have z := of_decide_eq_true h
          injection z with z
          omega
        refine ⟨_, rfl, _, 1, termsD a.terms, (sqv.same st.s), rfl, rfl, fun y1 t1 => ⟨_, rfl, _, _, a.terms[i].d, .inr t1, rfl, atI_nat hi2, fun y2 t2 => ⟨_, 1, .str a.terms[i].word, .inr (by rw [← esd]; exact t2), rfl, rfl, fun y3 t3 => ⟨by show 2 ≤ sizeLine; omega, fun q2 n2 => ?_⟩⟩⟩⟩
        have e3 := t3.str_inv
        subst e3
        exact step (Same.refl _) n2 wOpen (by rw [if_pos h0]) _ ewd
      · have h0 : ¬ i = 0 := fun z => h (decide_eq_true (by rw [z]; rfl))
        refine ⟨_, rfl, _, 1, termsD a.terms, (sqv.same st.s), rfl, rfl, fun y1 t1 => ⟨_, rfl, _, _, a.terms[i].d, .inr t1, rfl, atI_nat hi2, fun y2 t2 => ⟨_, 1, .str a.terms[i].word, .inr (by rw [← esd]; exact t2), rfl, rfl, fun y3 t3 => ⟨by show 2 ≤ sizeLine; omega, fun q2 n2 => ?_⟩⟩⟩⟩
        have e3 := t3.str_inv
        subst e3
        exact step (Same.refl _) n2 wComma (by rw [if_neg h0]) _ ewd
    rintro σ' H1 ⟨q, w, rfl, st, _⟩
    have z2 := flat_len (f := fun i => [if i = 0 then wOpen else wComma, atStr (a.terms.map Tm.word) i]) (k := 2) (fun _ => Nat.le_refl _) a.terms.length
    have ll : ([a.name] ++ (List.range a.terms.length).flatMap (fun i => [if i = 0 then wOpen else wComma, atStr (a.terms.map Tm.word) i])).length ≤ 5 := by
      rw [List.length_append]
      show 1 + _ ≤ 5
      omega
    have sh : ∀ d ∈ a.terms.map Tm.d, ShB 1 d := fun d hd => by
      obtain ⟨t, ht, rfl⟩ := List.mem_map.mp hd
      exact tm_sh (hs.2 t ht)
    refine ⟨_, rfl, _, rfl, _, 1, termsD a.terms, (sqv.same st.s), rfl, rfl, fun y ty => ⟨[], _, .nil, rfl, fun z H2 s2 tz => ⟨_, 1, ty.same s2, tz, sh, by decide, _, rfl, ite2 (fun h => ?_) (fun h => ?_)⟩⟩⟩
    · have h2 : a.terms ≠ [] := fun z => (of_decide_eq_true h) (by rw [z]; rfl)
      refine ⟨[], [.str wClose], .nil, rfl, by show 1 ≤ sizeLine; omega, fun q2 H3 n2 s3 l3 => st.cat (vs := [wClose]) (s2.trans s3) l3 (by show _ + 1 ≤ _; omega) fun p H4 st4 => ?_⟩
      refine st4.fin ?_
      have e : atomW a = [a.name] ++ (List.range a.terms.length).flatMap (fun i => [if i = 0 then wOpen else wComma, atStr (a.terms.map Tm.word) i]) ++ [wClose] := by
        unfold atomW
        rw [if_pos h2]
      rw [← e]
      exact fin
    · have h2 : a.terms = [] := by
        cases ht : a.terms with
        | nil => rfl
        | cons t r =>
          exfalso
          refine h (decide_eq_true ?_)
          rw [ht]
          simp
      refine ⟨by show 0 ≤ sizeLine; omega, fun q2 n2 => st.cat (vs := []) (s2.trans (Same.new n2)) (lsS []) (by show _ + 0 ≤ _; omega) fun p H4 st4 => ?_⟩
      refine st4.fin ?_
      have e : atomW a = [a.name] ++ (List.range a.terms.length).flatMap (fun i => [if i = 0 then wOpen else wComma, atStr (a.terms.map Tm.word) i]) ++ [] := by
        unfold atomW
        rw [if_neg (fun z => z h2)]
      rw [← e]
      exact fin
end
section
variable {P : Program} {w : World} {K : PySem.W.Frag} {mg : Str → Option Value} {base : Heap}
theorem scRowWords : FnScope ["names", "words", "at"] ["names"] (defScope sRowWords) := ⟨rfl, rfl, rfl, by decide +kernel, rfl, by decide +kernel, by decide +kernel⟩
theorem ok_RowWords (D : DefAt K mg "_law_row_words" sRowWords) (B : Blt mg)  : Callee P w K mg base CX0 "_law_row_words" 1 ["names"] (spWds K strsD RowS rowW) := by
  refine callee_of D scRowWords (fun _ _ _ _ _ _ us hl => match us, hl with | [_], _ => rfl) (fun vs H Q E h => ?_) (fun f cdv A outer s H vs Q E hG hr h => ?_)
  · obtain ⟨xs, v, rfl, _⟩ := h
    rfl
  · obtain ⟨xs, v, rfl, tv, hs, fin⟩ := h
    have hu : (A.deeper (PyProof.Rows.envOfC "_law_row_words" (defScope sRowWords) s.heap.objs.size f cdv)).units + 64 < cLine := hr.units
    have hu1 : (A.deeper (PyProof.Rows.envOfC "_law_row_words" (defScope sRowWords) s.heap.objs.size f cdv)).units + 1 < cLine := by omega
    have hu2 : (A.deeper (PyProof.Rows.envOfC "_law_row_words" (defScope sRowWords) s.heap.objs.size f cdv)).units < cLine := by omega
    refine ⟨_, (pss_cons (ps_set (i := 1) scRowWords.nd rfl (Or.inl rfl) (pe_lst pa_nil))
      (pss_cons (ps_for PassesOwn.never rfl (pi_range1 rfl B.range (pa_cons (pe_callB call_lenS (by rfl) B.len (by decide +kernel) (pa_cons (pv 0) pa_nil)) pa_nil)) (pg_name (i := 2) scRowWords.nd rfl (Or.inl rfl)) (pss_one (ps_set (i := 1) scRowWords.nd rfl (Or.inl rfl) (pe_op op_catL (pe_op op_catL (pv 1) (pe_ifExp (pt_cmpR op_gt (pv 2) pe_int (nomark _)) (pd_lst (pds_cons (pd_str pe_str) pds_nil)) (pe_lst pa_nil))) (pe_lst (pa_cons (pe_ix ix_sq (pv 0) (pv 2) (fun _ _ => rfl)) pa_nil))))))
      (pss_one (ps_ret (pv 1))))), ?_⟩
    have two : 200 ≤ sizeLine := by decide
    have hl : xs.length ≤ 20 := hs
    have tv2 : Tp K H v (.tuple (xs.map .str)) := tv
    refine ⟨by show 0 ≤ sizeLine; omega, fun q nq => ?_⟩
    have st0 : WsSt K H (upd H q (.lst [])) q [] := ⟨nq, Same.new nq, lsS []⟩
    refine ⟨_, rfl, _, _, rfl, .inr (tv2.same st0.s), ?_⟩
    rw [List.length_map]
    refine ⟨_, rfl, by omega, by omega, ?_⟩
    refine for_it (walk_range0 (n := xs.length)) (fun i σ' H' => ∃ (q : Addr) (w : Option V), σ' = [some v, some (.ref q), w] ∧ WsSt K H H' q ((List.range i).flatMap fun i => (if 0 < i then [wComma] else []) ++ [atStr xs i])) ?_ ?_ ?_ ?_
    · exact ⟨q, _, rfl, st0⟩
    · intro i σ' H' hi _
      exact True.intro
    · rintro i z σ' H1 H1' hi ⟨q, w, rfl, st⟩ ⟨rfl, rfl⟩
      have zl := flat_len (f := fun i => (if 0 < i then [wComma] else []) ++ [atStr xs i]) (k := 2) (fun i => by rw [List.length_append]; split <;> simp) i
      have exi : atStr xs i = xs[i] := by
        unfold atStr
        rw [List.getElem?_eq_getElem hi]
        rfl
      have last : ∀ {H2 H3 H' : Hp} {p q3 p2 : Addr} (sep : List Str), sep = (if 0 < i then [wComma] else []) → WsSt K H H2 p ((List.range i).flatMap (fun i => (if 0 < i then [wComma] else []) ++ [atStr xs i]) ++ sep) → Same H2 H3 → H3 q3 = none → Same H3 H' →
          LsAt K H' q3 (((List.range i).flatMap (fun i => (if 0 < i then [wComma] else []) ++ [atStr xs i]) ++ sep).map .str ++ [xs[i]].map .str) → ∃ (q : Addr) (w : Option V), [some v, some (V.ref q3), some (.int (i : Nat))] = [some v, some (V.ref q), w] ∧ WsSt K H H' q ((List.range (i + 1)).flatMap fun i => (if 0 < i then [wComma] else []) ++ [atStr xs i]) := by
        intro H2 H3 H' p q3 p2 sep hsep st2 s3 n3 s4 l4
        refine ⟨q3, _, rfl, ?_⟩
        have z := (st2.same s3).app (vs := [xs[i]]) n3 s4 l4
        rw [flat_range_succ, ← hsep, exi, ← List.append_assoc]
        exact z
      have ixn : ∀ {H2 : Hp} {Q' : VK}, Same H H2 → Q' (.str xs[i]) H2 → rIxS2 K v (.int (i : Nat)) H2 Q' := fun s2 q' => ⟨_, _, .str xs[i], .inr (tv2.same s2), rfl, atI_nat (by rw [List.getElem?_map, List.getElem?_eq_getElem hi]; rfl), fun v1 t1 => by
        have e1 := t1.str_inv
        subst e1
        exact q'⟩
      refine ⟨_, rfl, _, rfl, _, _, rfl, rfl, _, rfl, ite2 (fun h => ?_) (fun h => ?_)⟩
      · have h0 : 0 < i := Int.ofNat_lt.mp (of_decide_eq_true h)
        refine ⟨[], [.str wComma], .nil, rfl, by show 1 ≤ sizeLine; omega, fun q2 H3 n2 s3 l3 => ⟨q, q2, _, _, rfl, rfl, (st.same s3).l, l3, len2 (vs := [wComma]) (by show _ + 1 ≤ _; omega), fun p H4 np s4 l4 => ?_⟩⟩
        have st4 := (st.same s3).app (vs := [wComma]) np s4 l4
        refine ⟨_, rfl, _, rfl, ixn st4.s ⟨by show 1 ≤ sizeLine; omega, fun p2 n2 => ⟨p, p2, _, _, rfl, rfl, (st4.same (Same.new n2)).l, lsS [xs[i]], len2 (vs := [xs[i]]) (by rw [List.length_append]; show _ + 1 + 1 ≤ _; omega), fun p3 H5 n3 s5 l5 => last (p2 := p2) [wComma] (by rw [if_pos h0]) st4 (Same.new n2) n3 s5 l5⟩⟩⟩
      · have h0 : ¬ 0 < i := fun z => h (decide_eq_true (Int.ofNat_lt.mpr z))
        refine ⟨by show 0 ≤ sizeLine; omega, fun q2 n2 => ⟨q, q2, _, _, rfl, rfl, (st.same (Same.new n2)).l, lsS [], len2 (vs := []) (by show _ + 0 ≤ _; omega), fun p H4 np s4 l4 => ?_⟩⟩
        have st4 := (st.same (Same.new n2)).app (vs := []) np s4 l4
        refine ⟨_, rfl, _, rfl, ixn st4.s ⟨by show 1 ≤ sizeLine; omega, fun p2 n2 => ⟨p, p2, _, _, rfl, rfl, (st4.same (Same.new n2)).l, lsS [xs[i]], len2 (vs := [xs[i]]) (by rw [List.length_append]; show _ + 0 + 1 ≤ _; omega), fun p3 H5 n3 s5 l5 => last (p2 := p2) [] (by rw [if_neg h0]) st4 (Same.new n2) n3 s5 l5⟩⟩⟩
    rintro σ' H1 ⟨q, w, rfl, st⟩
    exact ⟨_, rfl, st.fin fin⟩
end
section
variable {P : Program} {w : World} {K : PySem.W.Frag} {mg : Str → Option Value} {base : Heap}
theorem scPartWords : FnScope ["part"] ["part"] (defScope sPartWords) := ⟨rfl, rfl, rfl, by decide +kernel, rfl, by decide +kernel, by decide +kernel⟩
theorem ok_PartWords (D : DefAt K mg "_law_part_words" sPartWords) (B : Blt mg) (cAtomW : Callee P w K mg base CX0 "_law_atom_words" 1 ["atom"] (spWds K Atm.d AtmS atomW)) : Callee P w K mg base CX0 "_law_part_words" 2 ["part"] (spWds K Pt.d PtS partW) := by
  refine callee_of D scPartWords (fun _ _ _ _ _ _ us hl => match us, hl with | [_], _ => rfl) (fun vs H Q E h => ?_) (fun f cdv A outer s H vs Q E hG hr h => ?_)
  · obtain ⟨a, v, rfl, _⟩ := h
    rfl
  · obtain ⟨a, v, rfl, tv, hs, fin⟩ := h
    have hu : (A.deeper (PyProof.Rows.envOfC "_law_part_words" (defScope sPartWords) s.heap.objs.size f cdv)).units + 64 < cLine := hr.units
    have hu1 : (A.deeper (PyProof.Rows.envOfC "_law_part_words" (defScope sPartWords) s.heap.objs.size f cdv)).units + 1 < cLine := by omega
    have hu2 : (A.deeper (PyProof.Rows.envOfC "_law_part_words" (defScope sPartWords) s.heap.objs.size f cdv)).units < cLine := by omega
    refine ⟨_, (pss_cons (ps_if (pt_cmpR op_in_seq (pe_ix ix_sq (pv 0) pe_int (fun _ _ => rfl)) (pd_tup (pds_cons (pd_str pe_str) (pds_cons (pd_str pe_str) pds_nil))) (by rfl)) (pss_one (ps_ret (pe_op op_catL (pe_ifExp (pt_cmpR op_eq (pe_ix ix_sq (pv 0) pe_int (fun _ _ => rfl)) pe_str (nomark _)) (pd_lst (pds_cons (pd_str pe_str) pds_nil)) (pe_lst pa_nil)) (pe_fn cAtomW hG (hr.mono (by decide)) pass0 (pa_cons (pe_slice sl_tupS (pv 0) (po_some pe_int) po_none) pa_nil))))) pss_nil)
      (pss_one (ps_ret (pe_lst (pa_cons (pe_ix ix_sq (pe_ix ix_sq (pv 0) pe_int (fun _ _ => rfl)) pe_int (fun _ _ => rfl)) (pa_cons (pe_ifExp (pt_cmpR op_eq (pe_ix ix_sq (pv 0) pe_int (fun _ _ => rfl)) pe_str (nomark _)) pe_str pe_str) (pa_cons (pe_ix ix_sq (pe_ix ix_sq (pv 0) pe_int (fun _ _ => rfl)) pe_int (fun _ _ => rfl)) pa_nil))))))), ?_⟩
    have two : 200 ≤ sizeLine := by decide
    cases a with
    | so a =>
      have tv2 : Tp K H v (.tuple [.str "so", .str a.name, termsD a.terms]) := tv
      have sqv : Sq K H v [.str "so", .str a.name, termsD a.terms] := .inr tv2
      have ha := hs a (by simp [Pt.atom])
      have la := atomW_len ha
      refine ⟨_, rfl, _, 0, .str "so", sqv, rfl, atI0, fun x tx => ?_⟩
      have ex := tx.str_inv
      subst ex
      refine ⟨[], _, .nil, rfl, fun z H2 s2 tz => ?_⟩
      obtain ⟨p, ys, rfl, sqz, tt⟩ := tz.tup_inv
      have ey := TpAll.strs (zs := ["so", "not"]) tt
      subst ey
      refine ⟨p, _, rfl, .inr sqz, rfl, rfl, _, rfl, ite2 (fun _ => ?_) (fun h => absurd (by decide +kernel) h)⟩
      refine ⟨_, rfl, _, 0, .str "so", sqv.same s2, rfl, atI0, fun x tx => ?_⟩
      have ex := tx.str_inv
      subst ex
      refine ⟨rfl, _, rfl, ite2 (fun h => absurd h (by decide +kernel)) (fun _ => ?_)⟩
      refine ⟨by show 0 ≤ sizeLine; omega, fun q nq => ?_⟩
      refine ⟨_, rfl, _, rfl, _, tv2.same (s2.trans (Same.new (o := .lst []) nq)), fun z3 H3 s3 t3 => ?_⟩
      have ec : cutD [.str "so", .str a.name, termsD a.terms] (some 1) none = [.str a.name, termsD a.terms] := cutD_from (ds := [.str "so", .str a.name, termsD a.terms]) (k := 1) (by simp)
      rw [ec] at t3
      refine ⟨a, z3, rfl, t3, ha, fun q4 H4 n4 s4 l4 => ⟨q, q4, _, _, rfl, rfl, (lsS (H := H2) []).same (s3.trans s4), l4, len2 (ws := ([] : List Str)) (vs := atomW a) (by show 0 + _ ≤ _; omega), fun p5 H5 n5 s5 l5 => ?_⟩⟩
      have sall := (((s2.trans (Same.new (o := .lst []) nq)).trans s3).trans s4)
      refine fin p5 H5 (sall.free n5) (sall.trans s5) ?_
      show LsAt K H5 p5 ((([] : List Str) ++ atomW a).map .str)
      rw [List.map_append]
      exact l5
    | no a =>
      have tv2 : Tp K H v (.tuple [.str "not", .str a.name, termsD a.terms]) := tv
      have sqv : Sq K H v [.str "not", .str a.name, termsD a.terms] := .inr tv2
      have ha := hs a (by simp [Pt.atom])
      have la := atomW_len ha
      refine ⟨_, rfl, _, 0, .str "not", sqv, rfl, atI0, fun x tx => ?_⟩
      have ex := tx.str_inv
      subst ex
      refine ⟨[], _, .nil, rfl, fun z H2 s2 tz => ?_⟩
      obtain ⟨p, ys, rfl, sqz, tt⟩ := tz.tup_inv
      have ey := TpAll.strs (zs := ["so", "not"]) tt
      subst ey
      refine ⟨p, _, rfl, .inr sqz, rfl, rfl, _, rfl, ite2 (fun _ => ?_) (fun h => absurd (by decide +kernel) h)⟩
      refine ⟨_, rfl, _, 0, .str "not", sqv.same s2, rfl, atI0, fun x tx => ?_⟩
      have ex := tx.str_inv
      subst ex
      refine ⟨rfl, _, rfl, ite2 (fun _ => ?_) (fun h => absurd (by decide +kernel) h)⟩
      refine ⟨[], [.str wNot], .nil, rfl, by show 1 ≤ sizeLine; omega, fun q Hn nq sn ln => ?_⟩
      refine ⟨_, rfl, _, rfl, _, tv2.same (s2.trans sn), fun z3 H3 s3 t3 => ?_⟩
      have ec : cutD [.str "not", .str a.name, termsD a.terms] (some 1) none = [.str a.name, termsD a.terms] := cutD_from (ds := [.str "not", .str a.name, termsD a.terms]) (k := 1) (by simp)
      rw [ec] at t3
      refine ⟨a, z3, rfl, t3, ha, fun q4 H4 n4 s4 l4 => ⟨q, q4, _, _, rfl, rfl, (ln).same (s3.trans s4), l4, len2 (ws := [wNot]) (vs := atomW a) (by show 1 + _ ≤ _; omega), fun p5 H5 n5 s5 l5 => ?_⟩⟩
      have sall := (((s2.trans sn).trans s3).trans s4)
      refine fin p5 H5 (sall.free n5) (sall.trans s5) ?_
      show LsAt K H5 p5 (([wNot] ++ atomW a).map .str)
      rw [List.map_append]
      exact l5
    | same s1 t1 =>
      have tv2 : Tp K H v (.tuple [.str "same", s1.d, t1.d]) := tv
      have sqv : Sq K H v [.str "same", s1.d, t1.d] := .inr tv2
      obtain ⟨d1, e1⟩ := tm_ds (t := s1)
      obtain ⟨d2, e2⟩ := tm_ds (t := t1)
      refine ⟨_, rfl, _, 0, .str "same", sqv, rfl, atI0, fun x tx => ?_⟩
      have ex := tx.str_inv
      subst ex
      refine ⟨[], _, .nil, rfl, fun z H2 s2 tz => ?_⟩
      obtain ⟨p, ys, rfl, sqz, tt⟩ := tz.tup_inv
      have ey := TpAll.strs (zs := ["so", "not"]) tt
      subst ey
      refine ⟨p, _, rfl, .inr sqz, rfl, rfl, _, rfl, ite2 (fun h => absurd h (by decide +kernel)) (fun _ => ?_)⟩
      refine ⟨_, rfl, _, 1, s1.d, sqv.same s2, rfl, rfl, fun y1 t1' => ⟨_, 1, .str s1.word, .inr (by rw [← e1]; exact t1'), rfl, rfl, fun y2 t2 => ?_⟩⟩
      have ey := t2.str_inv
      subst ey
      refine ⟨_, rfl, _, 0, .str "same", sqv.same s2, rfl, atI0, fun x tx => ?_⟩
      have ex := tx.str_inv
      subst ex
      refine ⟨rfl, _, rfl, ite2 (fun _ => ?_) (fun h => absurd (by decide +kernel) h)⟩
      refine ⟨_, rfl, _, 2, t1.d, sqv.same s2, rfl, rfl, fun y1 t1' => ⟨_, 1, .str t1.word, .inr (by rw [← e2]; exact t1'), rfl, rfl, fun y2 t2 => ?_⟩⟩
      have ey := t2.str_inv
      subst ey
      exact ⟨by show 3 ≤ sizeLine; omega, fun q nq => fin q _ (s2.free nq) (s2.trans (Same.new nq)) (lsS [s1.word, wEq, t1.word])⟩
    | other s1 t1 =>
      have tv2 : Tp K H v (.tuple [.str "other", s1.d, t1.d]) := tv
      have sqv : Sq K H v [.str "other", s1.d, t1.d] := .inr tv2
      obtain ⟨d1, e1⟩ := tm_ds (t := s1)
      obtain ⟨d2, e2⟩ := tm_ds (t := t1)
      refine ⟨_, rfl, _, 0, .str "other", sqv, rfl, atI0, fun x tx => ?_⟩
      have ex := tx.str_inv
      subst ex
      refine ⟨[], _, .nil, rfl, fun z H2 s2 tz => ?_⟩
      obtain ⟨p, ys, rfl, sqz, tt⟩ := tz.tup_inv
      have ey := TpAll.strs (zs := ["so", "not"]) tt
      subst ey
      refine ⟨p, _, rfl, .inr sqz, rfl, rfl, _, rfl, ite2 (fun h => absurd h (by decide +kernel)) (fun _ => ?_)⟩
      refine ⟨_, rfl, _, 1, s1.d, sqv.same s2, rfl, rfl, fun y1 t1' => ⟨_, 1, .str s1.word, .inr (by rw [← e1]; exact t1'), rfl, rfl, fun y2 t2 => ?_⟩⟩
      have ey := t2.str_inv
      subst ey
      refine ⟨_, rfl, _, 0, .str "other", sqv.same s2, rfl, atI0, fun x tx => ?_⟩
      have ex := tx.str_inv
      subst ex
      refine ⟨rfl, _, rfl, ite2 (fun h => absurd h (by decide +kernel)) (fun _ => ?_)⟩
      refine ⟨_, rfl, _, 2, t1.d, sqv.same s2, rfl, rfl, fun y1 t1' => ⟨_, 1, .str t1.word, .inr (by rw [← e2]; exact t1'), rfl, rfl, fun y2 t2 => ?_⟩⟩
      have ey := t2.str_inv
      subst ey
      exact ⟨by show 3 ≤ sizeLine; omega, fun q nq => fin q _ (s2.free nq) (s2.trans (Same.new nq)) (lsS [s1.word, wNe, t1.word])⟩
end

end Og

set_option Elab.async false
set_option linter.all false
set_option maxRecDepth 100000
set_option maxHeartbeats 8000000
namespace Og
open PySem L2
open TL
def costW : Fm → List Str
  | .cost n m _ => [wCost, numS n] ++ (if m ≠ 1 then [wSlash, numS m] else [])
  | _ => []
theorem headW_len {f : Fm} (h : FmS f) : (headW f).length ≤ 7 := by
  cases f with
  | rule hd b =>
    have := atomW_len (h.at' hd (by simp [Fm.atoms, Fm.head]))
    show (atomW hd).length ≤ 7
    omega
  | may hd b =>
    have := atomW_len (h.at' hd (by simp [Fm.atoms, Fm.head]))
    show ([wMay] ++ atomW hd).length ≤ 7
    rw [List.length_append]
    show 1 + _ ≤ 7
    omega
  | never b => exact Nat.zero_le _
  | cost n m b =>
    unfold headW
    rw [List.length_append]
    split
    · exact (by decide : 2 + 2 ≤ 7)
    · exact (by decide : 2 + 0 ≤ 7)
section
variable {P : Program} {w : World} {K : PySem.W.Frag} {mg : Str → Option Value} {base : Heap}
theorem scFormWords : FnScope ["form", "words", "at"] ["form"] (defScope sFormWords) := ⟨rfl, rfl, rfl, by decide +kernel, rfl, by decide +kernel, by decide +kernel⟩
theorem ok_FormWords (D : DefAt K mg "_law_form_words" sFormWords) (B : Blt mg) (cAtomW : Callee P w K mg base CX0 "_law_atom_words" 1 ["atom"] (spWds K Atm.d AtmS atomW)) (cPartW : Callee P w K mg base CX0 "_law_part_words" 2 ["part"] (spWds K Pt.d PtS partW)) : Callee P w K mg base CX0 "_law_form_words" 3 ["form"] (spWds K Fm.d FmS formW) := by
  refine callee_of D scFormWords (fun _ _ _ _ _ _ us hl => match us, hl with | [_], _ => rfl) (fun vs H Q E h => ?_) (fun f cdv A outer s H vs Q E hG hr h => ?_)
  · obtain ⟨a, v, rfl, _⟩ := h
    rfl
  · obtain ⟨a, v, rfl, tv, hs, fin⟩ := h
    have hu : (A.deeper (PyProof.Rows.envOfC "_law_form_words" (defScope sFormWords) s.heap.objs.size f cdv)).units + 64 < cLine := hr.units
    have hu1 : (A.deeper (PyProof.Rows.envOfC "_law_form_words" (defScope sFormWords) s.heap.objs.size f cdv)).units + 1 < cLine := by omega
    have hu2 : (A.deeper (PyProof.Rows.envOfC "_law_form_words" (defScope sFormWords) s.heap.objs.size f cdv)).units < cLine := by omega
    refine ⟨_, (pss_cons (ps_set (i := 1) scFormWords.nd rfl (Or.inl rfl) (pe_lst pa_nil))
      (C8.pss_cut (ps_if (pt_cmpR op_eq (pe_ix ix_sq (pv 0) pe_int (fun _ _ => rfl)) pe_str (nomark _)) (pss_one (ps_set (i := 1) scFormWords.nd rfl (Or.inl rfl) (pe_op op_catL (pe_lst (pa_cons pe_str (pa_cons (pe_callTy call_str_int (by rfl) B.str (by decide +kernel) (pa_cons (pe_ix ix_sq (pe_ix ix_sq (pv 0) pe_int (fun _ _ => rfl)) pe_int (fun _ _ => rfl)) pa_nil)) pa_nil))) (pe_ifExp (pt_cmpR op_ne (pe_ix ix_sq (pe_ix ix_sq (pv 0) pe_int (fun _ _ => rfl)) pe_int (fun _ _ => rfl)) pe_int (nomark _)) (pe_lst (pa_cons pe_str (pa_cons (pe_callTy call_str_int (by rfl) B.str (by decide +kernel) (pa_cons (pe_ix ix_sq (pe_ix ix_sq (pv 0) pe_int (fun _ _ => rfl)) pe_int (fun _ _ => rfl)) pa_nil)) pa_nil))) (pe_lst pa_nil))))) pss_nil)
      (C8.pss_cut (ps_if (pt_cmpR op_in_seq (pe_ix ix_sq (pv 0) pe_int (fun _ _ => rfl)) (pd_tup (pds_cons (pd_str pe_str) (pds_cons (pd_str pe_str) pds_nil))) (by rfl)) (pss_one (ps_set (i := 1) scFormWords.nd rfl (Or.inl rfl) (pe_op op_catL (pe_ifExp (pt_cmpR op_eq (pe_ix ix_sq (pv 0) pe_int (fun _ _ => rfl)) pe_str (nomark _)) (pd_lst (pds_cons (pd_str pe_str) pds_nil)) (pe_lst pa_nil)) (pe_fn cAtomW hG (hr.mono (by decide)) pass0 (pa_cons (pe_ix ix_sq (pv 0) pe_int (fun _ _ => rfl)) pa_nil))))) pss_nil)
      (pss_cons (ps_for PassesOwn.never rfl (pi_range1 rfl B.range (pa_cons (pe_callB call_lenS (by rfl) B.len (by decide +kernel) (pa_cons (pe_ix ix_sq (pv 0) (pe_un un_neg pe_int) (fun _ _ => rfl)) pa_nil)) pa_nil)) (pg_name (i := 2) scFormWords.nd rfl (Or.inl rfl)) (pss_one (ps_set (i := 1) scFormWords.nd rfl (Or.inl rfl) (pe_op op_catL (pe_op op_catL (pv 1) (pe_lst (pa_cons (pe_ifExp (pt_cmpR op_gt (pv 2) pe_int (nomark _)) pe_str (pe_ifExp (pt_cmpR op_eq (pe_ix ix_sq (pv 0) pe_int (fun _ _ => rfl)) pe_str (nomark _)) pe_str pe_str)) pa_nil))) (pe_fn cPartW hG (hr.mono (by decide)) pass0 (pa_cons (pe_ix ix_sq (pe_ix ix_sq (pv 0) (pe_un un_neg pe_int) (fun _ _ => rfl)) (pv 2) (fun _ _ => rfl)) pa_nil))))))
      (pss_one (ps_ret (pv 1))))))), ?_⟩
    have two : 200 ≤ sizeLine := by decide
    have tv2 : Tp K H v (.tuple a.ds) := tv
    have sqv : Sq K H v a.ds := .inr tv2
    have hsort : atI a.ds 0 = some (.str a.sort) := by cases a <;> exact atI0
    have hlast : atI a.ds (-1) = some (bodyD a.body) := by cases a <;> exact atI_last rfl
    have cl : ∀ c ∈ costs, c.1.natAbs.log2 < 1920 ∧ c.2.natAbs.log2 < 1920 := by decide +kernel
    refine ⟨by show 0 ≤ sizeLine; omega, fun q nq => ?_⟩
    have st0 : WsSt K H (upd H q (.lst [])) q [] := ⟨nq, Same.new nq, lsS []⟩
    refine ⟨fun σ' H' => ∃ q, σ' = [some v, some (.ref q), none] ∧ WsSt K H H' q (costW a), ?_, ?_⟩
    · refine ⟨_, rfl, _, 0, .str (Fm.sort _), sqv.same st0.s, rfl, hsort, fun x tx => ?_⟩
      have ex := tx.str_inv
      subst ex
      refine ⟨rfl, _, rfl, ite2 (fun h => ?_) (fun h => ?_)⟩
      · cases a with
        | rule _ _ => exact absurd h (show ¬ decide (V.str "rule" = V.str "cost") = true by decide +kernel)
        | may _ _ => exact absurd h (show ¬ decide (V.str "may" = V.str "cost") = true by decide +kernel)
        | never _ => exact absurd h (show ¬ decide (V.str "never" = V.str "cost") = true by decide +kernel)
        | cost n m b =>
          have hc := cl _ (hs.cost n m b rfl)
          have sqc : Sq K H v [.str "cost", .tuple [.int n, .int m], bodyD b] := sqv
          refine ⟨_, rfl, _, 1, .tuple [.int n, .int m], sqc.same st0.s, rfl, rfl, fun y ty => ⟨_, 0, .int n, .inr ty, rfl, atI0, fun y2 t2 => ?_⟩⟩
          have ey := t2.int_inv
          subst ey
          refine ⟨n, rfl, hc.1, by show 2 ≤ sizeLine; omega, fun q2 n2 => ?_⟩
          have st1 : WsSt K H (upd (upd H q (.lst [])) q2 (.lst [V.str wCost, .str (numS n)])) q2 [wCost, numS n] := ⟨st0.s.free n2, st0.s.trans (Same.new n2), lsS [wCost, numS n]⟩
          refine ⟨_, rfl, _, 1, .tuple [.int n, .int m], sqc.same st1.s, rfl, rfl, fun y ty => ⟨_, 1, .int m, .inr ty, rfl, rfl, fun y2 t2 => ?_⟩⟩
          have ey := t2.int_inv
          subst ey
          refine ⟨rfl, _, rfl, ite2 (fun h1 => ?_) (fun h1 => ?_)⟩
          · have hm : m ≠ 1 := fun z => by
              rw [z] at h1
              exact absurd h1 (by decide +kernel)
            refine ⟨_, rfl, _, 1, .tuple [.int n, .int m], sqc.same st1.s, rfl, rfl, fun y ty => ⟨_, 1, .int m, .inr ty, rfl, rfl, fun y2 t2 => ?_⟩⟩
            have ey := t2.int_inv
            subst ey
            refine ⟨m, rfl, hc.2, by show 2 ≤ sizeLine; omega, fun q3 n3 => ⟨q2, q3, _, _, rfl, rfl, (st1.same (Same.new n3)).l, lsS [wSlash, numS m], by show 2 + 2 ≤ sizeLine; omega, fun p H4 np s4 l4 => ⟨p, rfl, ?_⟩⟩⟩
            have z := (st1.same (Same.new n3)).app (vs := [wSlash, numS m]) np s4 l4
            show WsSt K H H4 p ([wCost, numS n] ++ if m ≠ 1 then [wSlash, numS m] else [])
            rw [if_pos hm]
            exact z
          · have hm : m = 1 := by
              by_cases z : m = 1
              · exact z
              · exfalso
                refine h1 ?_
                have w : decide (V.int m = V.int 1) = false := decide_eq_false (fun w => z (by injection w))
                show (!decide (V.int m = V.int 1)) = true
                rw [w]
                rfl
            refine ⟨by show 0 ≤ sizeLine; omega, fun q3 n3 => ⟨q2, q3, _, _, rfl, rfl, (st1.same (Same.new n3)).l, lsS [], by show 2 + 0 ≤ sizeLine; omega, fun p H4 np s4 l4 => ⟨p, rfl, ?_⟩⟩⟩
            have z := (st1.same (Same.new n3)).app (vs := []) np s4 l4
            show WsSt K H H4 p ([wCost, numS n] ++ if m ≠ 1 then [wSlash, numS m] else [])
            rw [if_neg (fun w => w hm)]
            exact z
      · refine ⟨q, rfl, ?_⟩
        have e : costW a = [] := by
          cases a with
          | rule _ _ => rfl
          | may _ _ => rfl
          | never _ => rfl
          | cost n m b => exact absurd (show decide (V.str "cost" = V.str "cost") = true by decide +kernel) h
        rw [e]
        exact st0
    rintro σ1 H1 ⟨q, rfl, st⟩
    refine ⟨fun σ' H' => ∃ q, σ' = [some v, some (.ref q), none] ∧ WsSt K H H' q (headW a), ?_, ?_⟩
    · refine ⟨_, rfl, _, 0, .str (Fm.sort _), sqv.same st.s, rfl, hsort, fun x tx => ?_⟩
      have ex := tx.str_inv
      subst ex
      refine ⟨[], _, .nil, rfl, fun z H2 s2 tz => ?_⟩
      obtain ⟨p, ys, rfl, sqz, tt⟩ := tz.tup_inv
      have ey := TpAll.strs (zs := ["rule", "may"]) tt
      subst ey
      have st2 := st.same s2
      refine ⟨p, _, rfl, .inr sqz, rfl, rfl, _, rfl, ite2 (fun h => ?_) (fun h => ?_)⟩
      · cases a with
        | never _ => exact absurd h (show ¬ inV (.str "never") [V.str "rule", V.str "may"] = true by decide +kernel)
        | cost _ _ _ => exact absurd h (show ¬ inV (.str "cost") [V.str "rule", V.str "may"] = true by decide +kernel)
        | rule hd b =>
          have sqc : Sq K H v [.str "rule", hd.d, bodyD b] := sqv
          refine ⟨_, rfl, _, 0, .str (Fm.sort _), sqv.same st2.s, rfl, hsort, fun x tx => ?_⟩
          have ex := tx.str_inv
          subst ex
          refine ⟨rfl, _, rfl, ite2 (fun h => absurd h (show ¬ decide (V.str "rule" = V.str "may") = true by decide +kernel)) (fun _ => ?_)⟩
          refine ⟨by show 0 ≤ sizeLine; omega, fun q3 n3 => ?_⟩
          have s3 := Same.new (o := .lst []) n3
          refine ⟨_, rfl, _, 1, hd.d, (sqc.same st2.s).same s3, rfl, rfl, fun y ty => ⟨hd, y, rfl, ty, hs.at' hd (by simp [Fm.atoms, Fm.head]), fun q4 H4 n4 s4 l4 => ⟨q3, q4, _, _, rfl, rfl, (lsS (ws := [])).same s4, l4, len2 (ws := []) (by have := atomW_len (hs.at' hd (by simp [Fm.atoms, Fm.head])); show 0 + _ ≤ _; omega), fun p H5 np s5 l5 => ⟨p, rfl, ?_⟩⟩⟩⟩
          refine ⟨((st2.s.trans s3).trans s4).free np, ((st2.s.trans s3).trans s4).trans s5, ?_⟩
          unfold headW
          rw [List.map_append]
          exact l5
        | may hd b =>
          have sqc : Sq K H v [.str "may", hd.d, bodyD b] := sqv
          refine ⟨_, rfl, _, 0, .str (Fm.sort _), sqv.same st2.s, rfl, hsort, fun x tx => ?_⟩
          have ex := tx.str_inv
          subst ex
          refine ⟨rfl, _, rfl, ite2 (fun _ => ?_) (fun h => absurd (show decide (V.str "may" = V.str "may") = true by decide +kernel) h)⟩
          refine ⟨[], [.str wMay], .nil, rfl, by show 1 ≤ sizeLine; omega, fun q3 H3 n3 s3 l3 => ?_⟩
          refine ⟨_, rfl, _, 1, hd.d, (sqc.same st2.s).same s3, rfl, rfl, fun y ty => ⟨hd, y, rfl, ty, hs.at' hd (by simp [Fm.atoms, Fm.head]), fun q4 H4 n4 s4 l4 => ⟨q3, q4, _, _, rfl, rfl, l3.same s4, l4, len2 (ws := [wMay]) (by have := atomW_len (hs.at' hd (by simp [Fm.atoms, Fm.head])); show 1 + _ ≤ _; omega), fun p H5 np s5 l5 => ⟨p, rfl, ?_⟩⟩⟩⟩
          refine ⟨((st2.s.trans s3).trans s4).free np, ((st2.s.trans s3).trans s4).trans s5, ?_⟩
          unfold headW
          rw [List.map_append]
          exact l5
      · refine ⟨q, rfl, ?_⟩
        have e : headW a = costW a := by
          cases a with
          | rule _ _ => exact absurd (show inV (.str "rule") [V.str "rule", V.str "may"] = true by decide +kernel) h
          | may _ _ => exact absurd (show inV (.str "may") [V.str "rule", V.str "may"] = true by decide +kernel) h
          | never _ => rfl
          | cost n m b => rfl
        rw [e]
        exact st2
    rintro σ1 H1 ⟨q, rfl, st⟩
    have hhl := headW_len hs
    have hbl := hs.len
    refine ⟨_, rfl, _, rfl, _, -1, bodyD a.body, sqv.same st.s, rfl, hlast, fun y ty => ⟨_, bodyDs a.body, rfl, .inr ty, ?_⟩⟩
    rw [bodyDs, List.length_map]
    refine ⟨_, rfl, by omega, by omega, ?_⟩
    refine for_it (walk_range0 (n := a.body.length)) (fun i σ' H' => ∃ (q : Addr) (w : Option V), σ' = [some v, some (.ref q), w] ∧ WsSt K H H' q (headW a ++ (List.range i).flatMap fun i => [if 0 < i then wAnd else firstW a] ++ ((a.body[i]?).map partW).getD [])) ?_ ?_ ?_ ?_
    · exact ⟨q, _, rfl, by simpa using st⟩
    · intro i σ' H' hi _
      exact True.intro
    · rintro i z σ' H2 H2' hi ⟨q, w, rfl, st⟩ ⟨rfl, rfl⟩
      have ptS : PtS a.body[i] := fun t ht => hs.at' t (List.mem_append_right _ (List.mem_flatMap.mpr ⟨_, List.getElem_mem hi, ht⟩))
      have pl := partW_len ptS
      have ebody : ((a.body[i]?).map partW).getD [] = partW a.body[i] := by rw [List.getElem?_eq_getElem hi]; rfl
      have zl := flat_len (f := fun i => [if 0 < i then wAnd else firstW a] ++ ((a.body[i]?).map partW).getD []) (k := 8) (fun j => by
        rw [List.length_append]
        have : (((a.body[j]?).map partW).getD []).length ≤ 7 := by
          cases hj : a.body[j]? with
          | none => exact Nat.zero_le _
          | some p =>
            refine partW_len (p := p) fun t ht => hs.at' t (List.mem_append_right _ (List.mem_flatMap.mpr ⟨_, List.mem_of_getElem? hj, ht⟩))
        show 1 + _ ≤ 8
        omega) i
      refine ⟨_, rfl, _, rfl, _, _, rfl, rfl, _, rfl, ite2 (fun h => ?_) (fun h => ?_)⟩
      · have h0 : 0 < i := Int.ofNat_lt.mp (of_decide_eq_true h)
        refine ⟨by show 1 ≤ sizeLine; omega, fun q2 n2 => ⟨q, q2, _, _, rfl, rfl, (st.same (Same.new n2)).l, lsS [wAnd], len2 (vs := [wAnd]) (by rw [List.length_append]; show _ + _ + 1 ≤ _; omega), fun p H4 np s4 l4 => ?_⟩⟩
        have st4 := (st.same (Same.new n2)).app (vs := [wAnd]) np s4 l4
        refine ⟨_, rfl, _, rfl, _, -1, bodyD a.body, sqv.same st4.s, rfl, hlast, fun y ty => ⟨_, rfl, _, _, a.body[i].d, .inr ty, rfl, atI_nat (by rw [bodyDs, List.getElem?_map, List.getElem?_eq_getElem hi]; rfl), fun y2 t2 => ⟨a.body[i], y2, rfl, t2, ptS, fun q5 H5 n5 s5 l5 => ⟨p, q5, _, _, rfl, rfl, (st4.same s5).l, l5, len2 (by rw [List.length_append, List.length_append]; show _ + _ + 1 + _ ≤ _; omega), fun p6 H6 n6 s6 l6 => ?_⟩⟩⟩⟩
        have st6 := (st4.same s5).app n6 s6 l6
        refine ⟨p6, _, rfl, ?_⟩
        rw [flat_range_succ, ebody, if_pos h0, ← List.append_assoc, ← List.append_assoc, List.append_assoc (headW a)]
        rw [List.append_assoc (headW a)] at st6
        exact st6
      · have h0 : ¬ 0 < i := fun z => h (decide_eq_true (Int.ofNat_lt.mpr z))
        refine ⟨_, rfl, _, 0, .str (Fm.sort _), sqv.same st.s, rfl, hsort, fun x tx => ?_⟩
        have ex := tx.str_inv
        subst ex
        refine ⟨rfl, _, rfl, ite2 (fun h => ?_) (fun h => ?_)⟩
        · have efirst : firstW a = wNever := by
            cases a with
            | rule _ _ => exact absurd h (show ¬ decide (V.str "rule" = V.str "never") = true by decide +kernel)
            | may _ _ => exact absurd h (show ¬ decide (V.str "may" = V.str "never") = true by decide +kernel)
            | never _ => rfl
            | cost n m b => exact absurd h (show ¬ decide (V.str "cost" = V.str "never") = true by decide +kernel)
          refine ⟨by show 1 ≤ sizeLine; omega, fun q2 n2 => ⟨q, q2, _, _, rfl, rfl, (st.same (Same.new n2)).l, lsS [wNever], len2 (vs := [wNever]) (by rw [List.length_append]; show _ + _ + 1 ≤ _; omega), fun p H4 np s4 l4 => ?_⟩⟩
          have st4 := (st.same (Same.new n2)).app (vs := [wNever]) np s4 l4
          refine ⟨_, rfl, _, rfl, _, -1, bodyD a.body, sqv.same st4.s, rfl, hlast, fun y ty => ⟨_, rfl, _, _, a.body[i].d, .inr ty, rfl, atI_nat (by rw [bodyDs, List.getElem?_map, List.getElem?_eq_getElem hi]; rfl), fun y2 t2 => ⟨a.body[i], y2, rfl, t2, ptS, fun q5 H5 n5 s5 l5 => ⟨p, q5, _, _, rfl, rfl, (st4.same s5).l, l5, len2 (by rw [List.length_append, List.length_append]; show _ + _ + 1 + _ ≤ _; omega), fun p6 H6 n6 s6 l6 => ?_⟩⟩⟩⟩
          have st6 := (st4.same s5).app n6 s6 l6
          refine ⟨p6, _, rfl, ?_⟩
          rw [flat_range_succ, ebody, if_neg h0, ← List.append_assoc, ← List.append_assoc, List.append_assoc (headW a)]
          rw [List.append_assoc (headW a)] at st6
          rw [← efirst] at st6
          exact st6
        · have efirst : firstW a = wIf := by
            cases a with
            | rule _ _ => rfl
            | may _ _ => rfl
            | never _ => exact absurd (show decide (V.str "never" = V.str "never") = true by decide +kernel) h
            | cost n m b => rfl
          refine ⟨by show 1 ≤ sizeLine; omega, fun q2 n2 => ⟨q, q2, _, _, rfl, rfl, (st.same (Same.new n2)).l, lsS [wIf], len2 (vs := [wIf]) (by rw [List.length_append]; show _ + _ + 1 ≤ _; omega), fun p H4 np s4 l4 => ?_⟩⟩
          have st4 := (st.same (Same.new n2)).app (vs := [wIf]) np s4 l4
          refine ⟨_, rfl, _, rfl, _, -1, bodyD a.body, sqv.same st4.s, rfl, hlast, fun y ty => ⟨_, rfl, _, _, a.body[i].d, .inr ty, rfl, atI_nat (by rw [bodyDs, List.getElem?_map, List.getElem?_eq_getElem hi]; rfl), fun y2 t2 => ⟨a.body[i], y2, rfl, t2, ptS, fun q5 H5 n5 s5 l5 => ⟨p, q5, _, _, rfl, rfl, (st4.same s5).l, l5, len2 (by rw [List.length_append, List.length_append]; show _ + _ + 1 + _ ≤ _; omega), fun p6 H6 n6 s6 l6 => ?_⟩⟩⟩⟩
          have st6 := (st4.same s5).app n6 s6 l6
          refine ⟨p6, _, rfl, ?_⟩
          rw [flat_range_succ, ebody, if_neg h0, ← List.append_assoc, ← List.append_assoc, List.append_assoc (headW a)]
          rw [List.append_assoc (headW a)] at st6
          rw [← efirst] at st6
          exact st6
    rintro σ' H2 ⟨q, w, rfl, st⟩
    exact ⟨_, rfl, st.fin fin⟩
end

end Og

set_option Elab.async false
set_option linter.all false
set_option maxRecDepth 100000
set_option maxHeartbeats 8000000
namespace Og
open PySem L2
open TL
def kG (k : Str × List Str) : List Str := [wKind, k.1, wColon] ++ rowW k.2 ++ [wSemi]
def tG (t : Str × List Str) : List Str := [wTell, t.1] ++ (if t.2 ≠ [] then [wOpen] ++ rowW t.2 ++ [wClose] else []) ++ [wSemi]
def sG (s : Str × Fm) : List Str := [wSay, s.1, wColon] ++ formW s.2 ++ [wSemi]
theorem rowW_len {xs : List Str} (h : RowS xs) : (rowW xs).length ≤ 40 := by
  have z := flat_len (f := fun i => (if 0 < i then [wComma] else []) ++ [atStr xs i]) (k := 2) (fun i => by rw [List.length_append]; split <;> simp) xs.length
  have : xs.length ≤ 20 := h
  unfold rowW
  omega
theorem formW_len {f : Fm} (h : FmS f) : (formW f).length ≤ 50 := by
  have z := flat_len (f := fun i => [if 0 < i then wAnd else firstW f] ++ ((f.body[i]?).map partW).getD []) (k := 8) (fun j => by
    rw [List.length_append]
    have : (((f.body[j]?).map partW).getD []).length ≤ 7 := by
      cases hj : f.body[j]? with
      | none => exact Nat.zero_le _
      | some p =>
        refine partW_len (p := p) fun t ht => h.at' t (List.mem_append_right _ (List.mem_flatMap.mpr ⟨_, List.mem_of_getElem? hj, ht⟩))
    show 1 + _ ≤ 8
    omega) f.body.length
  have := headW_len h
  have := h.len
  unfold formW bodyW
  rw [List.length_append]
  omega
theorem flatM_len {α β : Type} {g : α → List β} {k : Nat} : ∀ {xs : List α}, (∀ x ∈ xs, (g x).length ≤ k) → (xs.flatMap g).length ≤ k * xs.length
  | [], _ => by simp
  | x :: xs, h => by
    rw [List.flatMap_cons, List.length_append, List.length_cons, Nat.mul_succ]
    have := h x List.mem_cons_self
    have := flatM_len (xs := xs) fun y hy => h y (List.mem_cons_of_mem _ hy)
    omega
theorem kG_len {b : Bk} (h : BkS b) : ∀ k ∈ b.kinds, (kG k).length ≤ 60 := fun k hk => by
  have := rowW_len (h.k.2 k hk)
  unfold kG
  rw [List.length_append, List.length_append]
  show 3 + _ + 1 ≤ 60
  omega
theorem tG_len {b : Bk} (h : BkS b) : ∀ k ∈ b.tells, (tG k).length ≤ 60 := fun k hk => by
  have := rowW_len (h.t.2 k hk).1
  unfold tG
  rw [List.length_append, List.length_append]
  have : (if k.2 ≠ [] then [wOpen] ++ rowW k.2 ++ [wClose] else []).length ≤ 42 := by
    split
    · rw [List.length_append, List.length_append]
      show 1 + _ + 1 ≤ 42
      omega
    · exact Nat.zero_le _
  show 2 + _ + 1 ≤ 60
  omega
theorem sG_len {b : Bk} (h : BkS b) : ∀ k ∈ b.says, (sG k).length ≤ 60 := fun k hk => by
  have := formW_len (h.s.2 k hk)
  unfold sG
  rw [List.length_append, List.length_append]
  show 3 + _ + 1 ≤ 60
  omega
section
variable {P : Program} {w : World} {K : PySem.W.Frag} {mg : Str → Option Value} {base : Heap}
theorem scTreeWords : FnScope ["tree", "words", "name", "items", "places", "form"] ["tree"] (defScope sTreeWords) := ⟨rfl, rfl, rfl, by decide +kernel, rfl, by decide +kernel, by decide +kernel⟩
theorem ok_TreeWords (D : DefAt K mg "_law_tree_words" sTreeWords) (B : Blt mg) (cRowW : Callee P w K mg base CX0 "_law_row_words" 1 ["names"] (spWds K strsD RowS rowW)) (cFormW : Callee P w K mg base CX0 "_law_form_words" 3 ["form"] (spWds K Fm.d FmS formW)) : Callee P w K mg base CX0 "_law_tree_words" 4 ["tree"] (spWds K Bk.d BkS treeW) := by
  refine callee_of D scTreeWords (fun _ _ _ _ _ _ us hl => match us, hl with | [_], _ => rfl) (fun vs H Q E h => ?_) (fun f cdv A outer s H vs Q E hG hr h => ?_)
  · obtain ⟨a, v, rfl, _⟩ := h
    rfl
  · obtain ⟨a, v, rfl, tv, hs, fin⟩ := h
    have hu : (A.deeper (PyProof.Rows.envOfC "_law_tree_words" (defScope sTreeWords) s.heap.objs.size f cdv)).units + 64 < cLine := hr.units
    have hu1 : (A.deeper (PyProof.Rows.envOfC "_law_tree_words" (defScope sTreeWords) s.heap.objs.size f cdv)).units + 1 < cLine := by omega
    have hu2 : (A.deeper (PyProof.Rows.envOfC "_law_tree_words" (defScope sTreeWords) s.heap.objs.size f cdv)).units < cLine := by omega
    refine ⟨_, (pss_cons (ps_set (i := 1) scTreeWords.nd rfl (Or.inl rfl) (pe_lst pa_nil))
      (pss_cons (ps_for PassesOwn.never rfl (pi_tup (pe_ix ix_sq (pv 0) pe_int (fun _ _ => rfl))) (pg_tup rfl (pgs_cons (pg_name (i := 2) scTreeWords.nd rfl (Or.inl rfl)) (pgs_cons (pg_name (i := 3) scTreeWords.nd rfl (Or.inl rfl)) pgs_nil))) (pss_one (ps_set (i := 1) scTreeWords.nd rfl (Or.inl rfl) (pe_op op_catL (pe_op op_catL (pe_op op_catL (pv 1) (pd_lst (pds_cons (pd_str pe_str) (pds_cons (pd_var (pv 2)) (pds_cons (pd_str pe_str) pds_nil))))) (pe_fn cRowW hG (hr.mono (by decide)) pass0 (pa_cons (pv 3) pa_nil))) (pd_lst (pds_cons (pd_str pe_str) pds_nil))))))
      (pss_cons (ps_for PassesOwn.never rfl (pi_tup (pe_ix ix_sq (pv 0) pe_int (fun _ _ => rfl))) (pg_tup rfl (pgs_cons (pg_name (i := 2) scTreeWords.nd rfl (Or.inl rfl)) (pgs_cons (pg_name (i := 4) scTreeWords.nd rfl (Or.inl rfl)) pgs_nil))) (pss_one (ps_set (i := 1) scTreeWords.nd rfl (Or.inl rfl) (pe_op op_catL (pe_op op_catL (pe_op op_catL (pv 1) (pd_lst (pds_cons (pd_str pe_str) (pds_cons (pd_var (pv 2)) pds_nil)))) (pe_ifExp (pt_cmpR (op_neT0 hu) (pv 4) (pd_tup pds_nil) (nomark _)) (pe_op op_catL (pe_op op_catL (pd_lst (pds_cons (pd_str pe_str) pds_nil)) (pe_fn cRowW hG (hr.mono (by decide)) pass0 (pa_cons (pv 4) pa_nil))) (pd_lst (pds_cons (pd_str pe_str) pds_nil))) (pe_lst pa_nil))) (pd_lst (pds_cons (pd_str pe_str) pds_nil))))))
      (pss_cons (ps_for PassesOwn.never rfl (pi_tup (pe_ix ix_sq (pv 0) pe_int (fun _ _ => rfl))) (pg_tup rfl (pgs_cons (pg_name (i := 2) scTreeWords.nd rfl (Or.inl rfl)) (pgs_cons (pg_name (i := 5) scTreeWords.nd rfl (Or.inl rfl)) pgs_nil))) (pss_one (ps_set (i := 1) scTreeWords.nd rfl (Or.inl rfl) (pe_op op_catL (pe_op op_catL (pe_op op_catL (pv 1) (pd_lst (pds_cons (pd_str pe_str) (pds_cons (pd_var (pv 2)) (pds_cons (pd_str pe_str) pds_nil))))) (pe_fn cFormW hG (hr.mono (by decide)) pass0 (pa_cons (pv 5) pa_nil))) (pd_lst (pds_cons (pd_str pe_str) pds_nil))))))
      (pss_one (ps_ret (pv 1))))))), ?_⟩
    have two : 200 ≤ sizeLine := by decide
    have big : 100000 ≤ sizeLine := by decide
    have tv2 : Tp K H v (.tuple [kindsD a.kinds, kindsD a.tells, .tuple (saysDs a.says)]) := tv
    have sqv : Sq K H v [kindsD a.kinds, kindsD a.tells, .tuple (saysDs a.says)] := .inr tv2
    have kl := hs.k.1
    have tll := hs.t.1
    have sll := hs.s.1
    refine ⟨by show 0 ≤ sizeLine; omega, fun q nq => ?_⟩
    have st : WsSt K H (upd H q (.lst [])) q [] := ⟨nq, Same.new nq, lsS []⟩
    generalize upd H q (.lst []) = H0 at st
    refine ⟨_, rfl, _, 0, kindsD a.kinds, sqv.same st.s, rfl, atI0, fun y ty => ?_⟩
    obtain ⟨a0, xs0, rfl, sq0, t0⟩ := (show Tp K _ y (.tuple (kindsDs a.kinds)) from ty).tup_inv
    have l0 : xs0.length = a.kinds.length := by rw [t0.length, kindsDs, List.length_map]
    refine ⟨a0, rfl, ⟨xs0, sq0⟩, ?_⟩
    have s0 := st.s
    refine for_it (walk_tup (xs := xs0)) (fun i σ' H' => ∃ (q : Addr) (w2 w3 w4 w5 : Option V), σ' = [some v, some (.ref q), w2, w3, w4, w5] ∧ WsSt K H H' q ([] ++ (a.kinds.take i).flatMap kG) ∧ Same H0 H') ?_ ?_ ?_ ?_
    · exact ⟨q, _, _, _, _, rfl, by simpa using st, Same.refl _⟩
    · rintro i σ' H' hi ⟨_, _, _, _, _, _, _, sx⟩
      exact Tk.same sx _ _ sq0
    · rintro i z σ' H2 H2' hi ⟨q, w2, w3, w4, w5, rfl, st, sx⟩ ⟨rfl, e⟩
      obtain ⟨d, e2, tx⟩ := t0.getV e
      rw [kindsDs, List.getElem?_map] at e2
      obtain ⟨⟨nm, its⟩, e3, rfl⟩ := Option.map_eq_some_iff.mp e2
      have hm := List.mem_of_getElem? e3
      obtain ⟨b4, y1, y2, rfl, sq4, u1, u2⟩ := tx.pair
      have eu := u1.str_inv
      subst eu
      have ilt := (List.getElem?_eq_some_iff.mp e3).1
      refine ⟨b4, _, rfl, Tk.same sx _ _ sq4, rfl, _, _, rfl, _, _, rfl, rfl, ?_⟩
      have u2 := u2.same sx
      have pl := flatM_len (xs := a.kinds.take i) (g := kG) (k := 60) (fun t ht => (kG_len hs) t (List.mem_of_mem_take ht))
      rw [List.length_take] at pl
      have pl2 : ([] ++ (a.kinds.take i).flatMap kG).length ≤ 0 + 1200 := by
        rw [List.nil_append]; omega
      refine ⟨_, rfl, [none, none, some (.str nm)], [.str wKind, .str nm, .str wColon], .skip (.skip (.cons (.str _) .nil)), rfl, by show 3 ≤ sizeLine; omega, fun q2 H3 n2 s3 l3 => ⟨q, q2, _, _, rfl, rfl, (st.same s3).l, l3, len2 (vs := [wKind, nm, wColon]) (by show _ + 3 ≤ _; omega), fun p H4 np s4 l4 => ?_⟩⟩
      have st4 := (st.same s3).app (vs := [wKind, nm, wColon]) np s4 l4
      have rl : (rowW its).length ≤ 40 := rowW_len (hs.k.2 _ hm)
      refine ⟨_, rfl, its, y2, rfl, (u2.same s3).same s4, hs.k.2 _ hm, fun q5 H5 n5 s5 l5 => ⟨p, q5, _, _, rfl, rfl, (st4.same s5).l, l5, len2 (by rw [List.length_append]; show _ + 3 + _ ≤ _; omega), fun p6 H6 n6 s6 l6 => ?_⟩⟩
      have st6 := (st4.same s5).app n6 s6 l6
      refine ⟨[], [.str wSemi], .nil, rfl, by show 1 ≤ sizeLine; omega, fun q7 H7 n7 s7 l7 => ⟨p6, q7, _, _, rfl, rfl, (st6.same s7).l, l7, len2 (vs := [wSemi]) (by rw [List.length_append, List.length_append]; show _ + 3 + _ + 1 ≤ _; omega), fun p8 H8 n8 s8 l8 => ?_⟩⟩
      have st8 := (st6.same s7).app (vs := [wSemi]) n8 s8 l8
      refine ⟨p8, _, _, _, _, rfl, ?_, ((((((sx.trans s3).trans s4).trans s5).trans s6).trans s7).trans s8)⟩
      rw [take_succ_map e3, List.flatMap_append]
      simpa [List.append_assoc, kG] using st8
    rintro σ1 H1 ⟨q, w2, w3, w4, w5, rfl, st, _⟩
    rw [l0, List.take_length] at st
    have k1 := flatM_len (xs := a.kinds) (g := kG) (k := 60) (fun t ht => kG_len hs t ht)
    refine ⟨_, rfl, _, 1, kindsD a.tells, sqv.same st.s, rfl, rfl, fun y ty => ?_⟩
    obtain ⟨a1, xs1, rfl, sq1, t1⟩ := (show Tp K _ y (.tuple (kindsDs a.tells)) from ty).tup_inv
    have l1 : xs1.length = a.tells.length := by rw [t1.length, kindsDs, List.length_map]
    refine ⟨a1, rfl, ⟨xs1, sq1⟩, ?_⟩
    have s1 := st.s
    refine for_it (walk_tup (xs := xs1)) (fun i σ' H' => ∃ (q : Addr) (w2 w3 w4 w5 : Option V), σ' = [some v, some (.ref q), w2, w3, w4, w5] ∧ WsSt K H H' q (([] ++ a.kinds.flatMap kG) ++ (a.tells.take i).flatMap tG) ∧ Same H1 H') ?_ ?_ ?_ ?_
    · exact ⟨q, _, _, _, _, rfl, by simpa using st, Same.refl _⟩
    · rintro i σ' H' hi ⟨_, _, _, _, _, _, _, sx⟩
      exact Tk.same sx _ _ sq1
    · rintro i z σ' H2 H2' hi ⟨q, w2, w3, w4, w5, rfl, st, sx⟩ ⟨rfl, e⟩
      obtain ⟨d, e2, tx⟩ := t1.getV e
      rw [kindsDs, List.getElem?_map] at e2
      obtain ⟨⟨nm, its⟩, e3, rfl⟩ := Option.map_eq_some_iff.mp e2
      have hm := List.mem_of_getElem? e3
      obtain ⟨b4, y1, y2, rfl, sq4, u1, u2⟩ := tx.pair
      have eu := u1.str_inv
      subst eu
      have ilt := (List.getElem?_eq_some_iff.mp e3).1
      refine ⟨b4, _, rfl, Tk.same sx _ _ sq4, rfl, _, _, rfl, _, _, rfl, rfl, ?_⟩
      have u2 := u2.same sx
      have pl := flatM_len (xs := a.tells.take i) (g := tG) (k := 60) (fun t ht => (tG_len hs) t (List.mem_of_mem_take ht))
      rw [List.length_take] at pl
      have pl2 : (([] ++ a.kinds.flatMap kG) ++ (a.tells.take i).flatMap tG).length ≤ 1200 + 1200 := by
        rw [List.length_append, List.nil_append]; omega
      refine ⟨_, rfl, [none, none, some (.str nm)], [.str wTell, .str nm], .skip (.skip (.cons (.str _) .nil)), rfl, by show 2 ≤ sizeLine; omega, fun q2 H3 n2 s3 l3 => ⟨q, q2, _, _, rfl, rfl, (st.same s3).l, l3, len2 (vs := [wTell, nm]) (by show _ + 2 ≤ _; omega), fun p H4 np s4 l4 => ?_⟩⟩
      have st4 := (st.same s3).app (vs := [wTell, nm]) np s4 l4
      have rl : (rowW its).length ≤ 40 := rowW_len (hs.t.2 _ hm).1
      refine ⟨_, rfl, [], _, .nil, rfl, fun z5 H5 s5 t5 => ⟨_, 0, ((u2.same s3).same s4).same s5, t5, shStrs (hs.t.2 _ hm).2, by decide, _, rfl, ite2 (fun h => ?_) (fun h => ?_)⟩⟩
      · have hne : its ≠ [] := fun z => (of_decide_eq_true h) (by rw [z]; rfl)
        refine ⟨[], [.str wOpen], .nil, rfl, by show 1 ≤ sizeLine; omega, fun q6 H6 n6 s6 l6 => ?_⟩
        refine ⟨_, rfl, its, y2, rfl, (((u2.same s3).same s4).same s5).same s6, (hs.t.2 _ hm).1, fun q7 H7 n7 s7 l7 => ⟨q6, q7, _, _, rfl, rfl, l6.same s7, l7, len2 (ws := [wOpen]) (by show 1 + _ ≤ _; omega), fun p8 H8 n8 s8 l8 => ?_⟩⟩
        refine ⟨[], [.str wClose], .nil, rfl, by show 1 ≤ sizeLine; omega, fun q9 H9 n9 s9 l9 => ⟨p8, q9, _, _, rfl, rfl, l8.same s9, l9, by rw [List.length_append, List.length_map]; show 1 + _ + 1 ≤ _; omega, fun p10 H10 n10 s10 l10 => ?_⟩⟩
        have s510 := ((((s5.trans s6).trans s7).trans s8).trans s9).trans s10
        have l10' : LsAt K H10 p10 (([wOpen] ++ rowW its ++ [wClose]).map .str) := by
          rw [List.map_append, List.map_append]
          exact l10
        refine ⟨p, p10, _, _, rfl, rfl, (st4.same s510).l, l10', len2 (by simp only [List.length_append, List.length_cons, List.length_nil] at pl2 ⊢; omega), fun p11 H11 n11 s11 l11 => ?_⟩
        have st11 := (st4.same s510).app n11 s11 l11
        refine ⟨[], [.str wSemi], .nil, rfl, by show 1 ≤ sizeLine; omega, fun q12 H12 n12 s12 l12 => ⟨p11, q12, _, _, rfl, rfl, (st11.same s12).l, l12, len2 (vs := [wSemi]) (by simp only [List.length_append, List.length_cons, List.length_nil] at pl2 ⊢; omega), fun p13 H13 n13 s13 l13 => ?_⟩⟩
        have st13 := (st11.same s12).app (vs := [wSemi]) n13 s13 l13
        refine ⟨p13, _, _, _, _, rfl, ?_, (((((sx.trans s3).trans s4).trans s510).trans s11).trans s12).trans s13⟩
        rw [take_succ_map e3, List.flatMap_append]
        have eg : tG (nm, its) = [wTell, nm] ++ ([wOpen] ++ rowW its ++ [wClose]) ++ [wSemi] := by
          unfold tG
          rw [if_pos hne]
        rw [List.flatMap_cons, List.flatMap_nil, List.append_nil, eg]
        simpa [List.append_assoc] using st13
      · have hne : its = [] := by
          cases its with
          | nil => rfl
          | cons _ _ => exact absurd (decide_eq_true (by simp)) h
        refine ⟨by show 0 ≤ sizeLine; omega, fun q6 n6 => ?_⟩
        have s6 := Same.new (o := .lst []) n6
        refine ⟨p, q6, _, _, rfl, rfl, (st4.same (s5.trans s6)).l, lsS [], len2 (vs := []) (by rw [List.length_append]; show _ + 2 + 0 ≤ _; omega), fun p11 H11 n11 s11 l11 => ?_⟩
        have st11 := (st4.same (s5.trans s6)).app (vs := []) n11 s11 l11
        refine ⟨[], [.str wSemi], .nil, rfl, by show 1 ≤ sizeLine; omega, fun q12 H12 n12 s12 l12 => ⟨p11, q12, _, _, rfl, rfl, (st11.same s12).l, l12, len2 (vs := [wSemi]) (by rw [List.length_append, List.length_append]; show _ + 2 + 0 + 1 ≤ _; omega), fun p13 H13 n13 s13 l13 => ?_⟩⟩
        have st13 := (st11.same s12).app (vs := [wSemi]) n13 s13 l13
        refine ⟨p13, _, _, _, _, rfl, ?_, (((((sx.trans s3).trans s4).trans (s5.trans s6)).trans s11).trans s12).trans s13⟩
        rw [take_succ_map e3, List.flatMap_append]
        have eg : tG (nm, its) = [wTell, nm] ++ [] ++ [wSemi] := by
          unfold tG
          rw [if_neg (fun z => z hne)]
        rw [List.flatMap_cons, List.flatMap_nil, List.append_nil, eg]
        simpa [List.append_assoc] using st13
    rintro σ2 H2 ⟨q, w2, w3, w4, w5, rfl, st, _⟩
    rw [l1, List.take_length] at st
    have k2 := flatM_len (xs := a.tells) (g := tG) (k := 60) (fun t ht => tG_len hs t ht)
    refine ⟨_, rfl, _, 2, .tuple (saysDs a.says), sqv.same st.s, rfl, rfl, fun y ty => ?_⟩
    obtain ⟨a2, xs2, rfl, sq2, t2⟩ := (show Tp K _ y (.tuple (saysDs a.says)) from ty).tup_inv
    have l2 : xs2.length = a.says.length := by rw [t2.length, saysDs, List.length_map]
    refine ⟨a2, rfl, ⟨xs2, sq2⟩, ?_⟩
    have s2 := st.s
    refine for_it (walk_tup (xs := xs2)) (fun i σ' H' => ∃ (q : Addr) (w2 w3 w4 w5 : Option V), σ' = [some v, some (.ref q), w2, w3, w4, w5] ∧ WsSt K H H' q ((([] ++ a.kinds.flatMap kG) ++ a.tells.flatMap tG) ++ (a.says.take i).flatMap sG) ∧ Same H2 H') ?_ ?_ ?_ ?_
    · exact ⟨q, _, _, _, _, rfl, by simpa using st, Same.refl _⟩
    · rintro i σ' H' hi ⟨_, _, _, _, _, _, _, sx⟩
      exact Tk.same sx _ _ sq2
    · rintro i z σ' H2 H2' hi ⟨q, w2, w3, w4, w5, rfl, st, sx⟩ ⟨rfl, e⟩
      obtain ⟨d, e2, tx⟩ := t2.getV e
      rw [saysDs, List.getElem?_map] at e2
      obtain ⟨⟨nm, its⟩, e3, rfl⟩ := Option.map_eq_some_iff.mp e2
      have hm := List.mem_of_getElem? e3
      obtain ⟨b4, y1, y2, rfl, sq4, u1, u2⟩ := tx.pair
      have eu := u1.str_inv
      subst eu
      have ilt := (List.getElem?_eq_some_iff.mp e3).1
      refine ⟨b4, _, rfl, Tk.same sx _ _ sq4, rfl, _, _, rfl, _, _, rfl, rfl, ?_⟩
      have u2 := u2.same sx
      have pl := flatM_len (xs := a.says.take i) (g := sG) (k := 60) (fun t ht => (sG_len hs) t (List.mem_of_mem_take ht))
      rw [List.length_take] at pl
      have pl2 : ((([] ++ a.kinds.flatMap kG) ++ a.tells.flatMap tG) ++ (a.says.take i).flatMap sG).length ≤ 2400 + 1200 := by
        rw [List.length_append, List.length_append, List.nil_append]; omega
      refine ⟨_, rfl, [none, none, some (.str nm)], [.str wSay, .str nm, .str wColon], .skip (.skip (.cons (.str _) .nil)), rfl, by show 3 ≤ sizeLine; omega, fun q2 H3 n2 s3 l3 => ⟨q, q2, _, _, rfl, rfl, (st.same s3).l, l3, len2 (vs := [wSay, nm, wColon]) (by show _ + 3 ≤ _; omega), fun p H4 np s4 l4 => ?_⟩⟩
      have st4 := (st.same s3).app (vs := [wSay, nm, wColon]) np s4 l4
      have rl : (formW its).length ≤ 50 := formW_len (hs.s.2 _ hm)
      refine ⟨_, rfl, its, y2, rfl, (u2.same s3).same s4, hs.s.2 _ hm, fun q5 H5 n5 s5 l5 => ⟨p, q5, _, _, rfl, rfl, (st4.same s5).l, l5, len2 (by rw [List.length_append]; show _ + 3 + _ ≤ _; omega), fun p6 H6 n6 s6 l6 => ?_⟩⟩
      have st6 := (st4.same s5).app n6 s6 l6
      refine ⟨[], [.str wSemi], .nil, rfl, by show 1 ≤ sizeLine; omega, fun q7 H7 n7 s7 l7 => ⟨p6, q7, _, _, rfl, rfl, (st6.same s7).l, l7, len2 (vs := [wSemi]) (by rw [List.length_append, List.length_append]; show _ + 3 + _ + 1 ≤ _; omega), fun p8 H8 n8 s8 l8 => ?_⟩⟩
      have st8 := (st6.same s7).app (vs := [wSemi]) n8 s8 l8
      refine ⟨p8, _, _, _, _, rfl, ?_, ((((((sx.trans s3).trans s4).trans s5).trans s6).trans s7).trans s8)⟩
      rw [take_succ_map e3, List.flatMap_append]
      simpa [List.append_assoc, sG] using st8
    rintro σ3 H3 ⟨q, w2, w3, w4, w5, rfl, st, _⟩
    rw [l2, List.take_length, List.nil_append] at st
    exact ⟨_, rfl, st.fin fin⟩
end

end Og

set_option Elab.async false
set_option linter.all false
set_option maxRecDepth 100000
set_option maxHeartbeats 4000000
/-! The words of a drawn book are words; a text of words and gaps has no bad one. -/
namespace Og
open PySem PySem.Spec PyProof.Rows L2 TL
def wdB (w : Str) : Bool := match tl w with
  | [] => false
  | c :: r => (decide (c ∈ tl LETs) && r.all (fun x => decide (x ∈ tl SIGs)) && decide (r.length ≤ 11)) || (decide (r = []) && (decide (c ∈ tl DIGs) || decide (c ∈ tl ONEs))) || decide (c :: r = [33, 61])
theorem fresh_wd : ∀ x ∈ freshNames, wdB x = true := by decide +kernel
theorem item_wd : ∀ x ∈ itemNames, wdB x = true := by decide +kernel
theorem kind_wd : ∀ x ∈ kindNames, wdB x = true := by decide +kernel
theorem tell_wd : ∀ x ∈ tellNames, wdB x = true := by decide +kernel
theorem say_wd : ∀ x ∈ sayNames, wdB x = true := by decide +kernel
theorem lit_wd : ∀ x ∈ [wOpen, wClose, wComma, wNot, wEq, wNe, wSlash, wAnd, wIf, wNever, wMay, wCost, wKind, wTell, wSay, wColon, wSemi], wdB x = true := by decide +kernel
theorem num_wd : ∀ c ∈ costs, wdB (numS c.1) = true ∧ wdB (numS c.2) = true := by decide +kernel
theorem item_strOk : ∀ x ∈ itemNames, PyData.strOk x = true := by decide +kernel
theorem atStr_mem {xs : List Str} {i : Nat} (h : i < xs.length) : atStr xs i ∈ xs := by
  unfold atStr
  rw [List.getElem?_eq_getElem h]
  exact List.getElem_mem h
abbrev WdAll (ws : List Str) : Prop := ∀ w ∈ ws, wdB w = true
theorem WdAll.app {a b : List Str} (h : WdAll a) (k : WdAll b) : WdAll (a ++ b) := fun w hw => (List.mem_append.mp hw).elim (h w) (k w)
theorem WdAll.one {a : Str} (h : wdB a = true) : WdAll [a] := fun w hw => by rw [List.mem_singleton.mp hw]; exact h
theorem WdAll.two {a b : Str} (h : wdB a = true) (k : wdB b = true) : WdAll [a, b] := fun w hw => (so_mem hw).elim (fun e => by rw [e]; exact h) (fun e => by rw [e]; exact k)
theorem WdAll.three {a b c : Str} (h : wdB a = true) (k : wdB b = true) (l : wdB c = true) : WdAll [a, b, c] := fun w hw => by
  rcases List.mem_cons.mp hw with e | hw
  · rw [e]; exact h
  · exact WdAll.two k l w hw
theorem WdAll.nil : WdAll [] := fun w hw => nomatch hw
theorem WdAll.flat {f : Nat → List Str} {n : Nat} (h : ∀ i, i < n → WdAll (f i)) : WdAll ((List.range n).flatMap f) := fun w hw => by
  obtain ⟨i, hi, hw⟩ := List.mem_flatMap.mp hw
  exact h i (List.mem_range.mp hi) w hw
theorem WdAll.flatM {α : Type} {f : α → List Str} {xs : List α} (h : ∀ x ∈ xs, WdAll (f x)) : WdAll (xs.flatMap f) := fun w hw => by
  obtain ⟨i, hi, hw⟩ := List.mem_flatMap.mp hw
  exact h i hi w hw
theorem rowW_ok {xs : List Str} (h : ∀ x ∈ xs, wdB x = true) : WdAll (rowW xs) := .flat fun i hi => by
  refine .app ?_ (.one (h _ (atStr_mem hi)))
  split
  · exact .one (lit_wd wComma (by simp))
  · exact .nil
structure AtmV (a : Atm) : Prop where
  name : wdB a.name = true
  terms : ∀ t ∈ a.terms, wdB t.word = true ∧ PyData.strOk t.word = true
  len : a.terms.length ≤ 2
theorem AtmV.s {a : Atm} (h : AtmV a) : AtmS a := ⟨h.len, fun t ht => (h.terms t ht).2⟩
theorem atomW_ok {a : Atm} (h : AtmV a) : WdAll (atomW a) := by
  unfold atomW
  refine .app (.app (.one h.name) (.flat fun i hi => .two ?_ ?_)) ?_
  · split
    · exact lit_wd wOpen (by simp)
    · exact lit_wd wComma (by simp)
  · have z : atStr (a.terms.map Tm.word) i ∈ a.terms.map Tm.word := atStr_mem (by rw [List.length_map]; exact hi)
    obtain ⟨t, ht, e⟩ := List.mem_map.mp z
    rw [← e]
    exact (h.terms t ht).1
  · split
    · exact .one (lit_wd wClose (by simp))
    · exact .nil
def PtV (p : Pt) : Prop := (∀ a ∈ p.atom, AtmV a) ∧ match p with
  | .same s t => wdB s.word = true ∧ wdB t.word = true
  | .other s t => wdB s.word = true ∧ wdB t.word = true
  | _ => True
theorem partW_ok {p : Pt} (h : PtV p) : WdAll (partW p) := by
  cases p with
  | so a => exact atomW_ok (h.1 a (by simp [Pt.atom]))
  | no a => exact .app (.one (lit_wd wNot (by simp))) (atomW_ok (h.1 a (by simp [Pt.atom])))
  | same s t => exact .three h.2.1 (lit_wd wEq (by simp)) h.2.2
  | other s t => exact .three h.2.1 (lit_wd wNe (by simp)) h.2.2
structure FmV (f : Fm) : Prop where
  head : ∀ a ∈ f.head, AtmV a
  body : ∀ p ∈ f.body, PtV p
  len : f.body.length ≤ 5
  cost : ∀ n m b, f = .cost n m b → (n, m) ∈ costs
theorem FmV.s {f : Fm} (h : FmV f) : FmS f := ⟨fun a ha => by
  rcases List.mem_append.mp ha with ha | ha
  · exact (h.head a ha).s
  · obtain ⟨p, hp, ha⟩ := List.mem_flatMap.mp ha
    exact ((h.body p hp).1 a ha).s, h.len, h.cost⟩
theorem formW_ok {f : Fm} (h : FmV f) : WdAll (formW f) := by
  refine .app ?_ (.flat fun i hi => .app (.one ?_) ?_)
  · cases f with
    | rule hd b => exact .app .nil (atomW_ok (h.head hd (by simp [Fm.head])))
    | may hd b => exact .app (.one (lit_wd wMay (by simp))) (atomW_ok (h.head hd (by simp [Fm.head])))
    | never b => exact .nil
    | cost n m b =>
      have hc := num_wd _ (h.cost n m b rfl)
      refine .app (.two (lit_wd wCost (by simp)) hc.1) ?_
      split
      · exact .two (lit_wd wSlash (by simp)) hc.2
      · exact .nil
  · split
    · exact lit_wd wAnd (by simp)
    · cases f <;> first | exact lit_wd wIf (by simp [firstW]) | exact lit_wd wNever (by simp [firstW])
  · rw [List.getElem?_eq_getElem hi]
    exact partW_ok (h.body _ (List.getElem_mem hi))
structure BkV (b : Bk) : Prop where
  k : b.kinds.length ≤ 20 ∧ ∀ k ∈ b.kinds, wdB k.1 = true ∧ k.2.length ≤ 20 ∧ ∀ x ∈ k.2, wdB x = true
  t : b.tells.length ≤ 20 ∧ ∀ k ∈ b.tells, wdB k.1 = true ∧ k.2.length ≤ 20 ∧ ∀ x ∈ k.2, wdB x = true ∧ PyData.strOk x = true
  s : b.says.length ≤ 20 ∧ ∀ s ∈ b.says, wdB s.1 = true ∧ FmV s.2
theorem BkV.toS {b : Bk} (h : BkV b) : BkS b := ⟨⟨h.k.1, fun k hk => (h.k.2 k hk).2.1⟩, ⟨h.t.1, fun k hk => ⟨(h.t.2 k hk).2.1, fun x hx => ((h.t.2 k hk).2.2 x hx).2⟩⟩, ⟨h.s.1, fun s hs => (h.s.2 s hs).2.s⟩⟩
theorem treeW_ok {b : Bk} (h : BkV b) : WdAll (treeW b) := by
  have semi : wdB wSemi = true := lit_wd wSemi (by simp)
  have colon : wdB wColon = true := lit_wd wColon (by simp)
  refine .app (.app (.flatM fun k hk => ?_) (.flatM fun t ht => ?_)) (.flatM fun s hs => ?_)
  · exact .app (.app (.three (lit_wd wKind (by simp)) (h.k.2 k hk).1 colon) (rowW_ok (h.k.2 k hk).2.2)) (.one semi)
  · refine .app (.app (.two (lit_wd wTell (by simp)) (h.t.2 t ht).1) ?_) (.one semi)
    split
    · exact .app (.app (.one (lit_wd wOpen (by simp))) (rowW_ok fun x hx => ((h.t.2 t ht).2.2 x hx).1)) (.one (lit_wd wClose (by simp)))
    · exact .nil
  · exact .app (.app (.three (lit_wd wSay (by simp)) (h.s.2 s hs).1 colon) (formW_ok (h.s.2 s hs).2)) (.one semi)
theorem tm_v {ks : Kds} {kw : Kw} {k : Str} {t : Tm} (ok : KdsOk ks) (kok : KwOk ks kw) (h : TmOk ks kw k t) : wdB t.word = true ∧ PyData.strOk t.word = true := by
  cases t with
  | any x => exact ⟨fresh_wd x (kok.name _ h), fresh_ok x (kok.name _ h)⟩
  | item i =>
    obtain ⟨its, h1, h2⟩ := h
    exact ⟨item_wd i (ok.item _ h1 i h2), item_strOk i (ok.item _ h1 i h2)⟩
theorem tms_v {ks : Kds} {kw : Kw} (ok : KdsOk ks) (kok : KwOk ks kw) : ∀ {ps : List Str} {ts : List Tm}, TmsOk ks kw ps ts → ∀ t ∈ ts, wdB t.word = true ∧ PyData.strOk t.word = true
  | [], [], _, _, h => nomatch h
  | _ :: _, _ :: _, h, t, ht => by
    rcases List.mem_cons.mp ht with rfl | ht
    · exact tm_v ok kok h.1
    · exact tms_v ok kok h.2 t ht
  | [], _ :: _, h, _, _ => h.elim
  | _ :: _, [], h, _, _ => h.elim
theorem atm_v {ks tll : Kds} {kw : Kw} {a : Atm} (ok : KdsOk ks) (tok : TlsOk ks tll) (kok : KwOk ks kw) (h : AtmOk ks tll kw a) : AtmV a := by
  obtain ⟨ps, h1, h2⟩ := h
  exact ⟨tell_wd _ (tok.name _ h1), tms_v ok kok h2, by rw [h2.length]; exact tok.two _ h1⟩
theorem pt_v {ks tll : Kds} {kw : Kw} {p : Pt} (ok : KdsOk ks) (tok : TlsOk ks tll) (kok : KwOk ks kw) (h : PtOk ks tll kw p) : PtV p := by
  cases p with
  | so a => exact ⟨fun b hb => by rw [List.mem_singleton.mp hb]; exact atm_v ok tok kok h, True.intro⟩
  | no a => exact ⟨fun b hb => by rw [List.mem_singleton.mp hb]; exact atm_v ok tok kok h, True.intro⟩
  | same s t =>
    obtain ⟨k, h1, h2⟩ := h
    exact ⟨(fun b hb => nomatch hb), (tm_v ok kok h1).1, (tm_v ok kok h2).1⟩
  | other s t =>
    obtain ⟨k, h1, h2⟩ := h
    exact ⟨(fun b hb => nomatch hb), (tm_v ok kok h1).1, (tm_v ok kok h2).1⟩
theorem bk_v {m : Nat} {b : Bk} (h : BkOk m b) (hm : m ≤ 14) : BkV b := by
  have ok := h.kinds
  have tok := h.tells
  refine ⟨⟨Nat.le_trans ok.len (by decide), fun k hk => ⟨kind_wd _ (ok.name k hk), Nat.le_trans (ok.some k hk).2 (by decide), fun x hx => item_wd x (ok.item k hk x hx)⟩⟩, ⟨Nat.le_trans tok.len (by decide), fun t ht => ⟨tell_wd _ (tok.name t ht), Nat.le_trans (tok.two t ht) (by decide), fun x hx => ?_⟩⟩, ⟨by have := h.len; omega, fun s hs => ⟨say_wd _ (h.name s hs), ?_⟩⟩⟩
  · obtain ⟨k, hk, e⟩ := List.mem_map.mp (tok.kind t ht x hx)
    rw [← e]
    exact ⟨kind_wd _ (ok.name k hk), kind_strOk _ (ok.name k hk)⟩
  · obtain ⟨kw, kok, _, h1, h2⟩ := (h.says s hs).kw
    exact ⟨fun a ha => atm_v ok tok kok (h1 a ha), fun p hp => pt_v ok tok kok (h2 p hp), (h.says s hs).len, (h.says s hs).cost⟩
/-- a text that has no bad word -/
inductive OkT : Cs → Prop
  | nil : OkT []
  | blank {cs : Cs} : OkT cs → OkT (32 :: cs)
  | line {cs : Cs} : OkT cs → OkT (10 :: cs)
  | note {k cs : Cs} : 10 ∉ k → OkT cs → OkT (35 :: k ++ 10 :: cs)
  | last {k : Cs} : 10 ∉ k → OkT (35 :: k)
  | word {w : Str} {cs : Cs} : wdB w = true → (∀ c r, cs = c :: r → c ∈ tl SIGs → ∀ x, (tl w).getLast? = some x → x ∉ tl SIGs) → OkT cs → OkT (tl w ++ cs)
theorem spl_acc {s : Nat} : ∀ (cs acc : Cs), ∃ l ls, spl [s] 0 [] cs = l :: ls ∧ spl [s] 0 acc cs = (acc ++ l) :: ls
  | [], acc => ⟨[], [], by rw [spl_nil], by rw [spl_nil, List.append_nil]⟩
  | c :: r, acc => by
    by_cases h : c = s
    · have e : pre [s] (c :: r) = true := by rw [pre_one]; exact decide_eq_true h
      exact ⟨[], _, spl_hit e, by rw [List.append_nil]; exact spl_hit e⟩
    · have e : pre [s] (c :: r) = false := by rw [pre_one]; exact decide_eq_false h
      obtain ⟨l, ls, e1, e2⟩ := spl_acc r (acc ++ [c])
      obtain ⟨l', ls', e1', e2'⟩ := spl_acc r ([] ++ [c])
      rw [e1] at e1'
      injection e1' with e3 e4
      refine ⟨c :: l, ls, ?_, ?_⟩
      · rw [spl_miss e, e2', ← e3, ← e4]
        rfl
      · rw [spl_miss e, e2, List.append_assoc]
        rfl
theorem spl_skip {s : Nat} : ∀ (k cs : Cs), s ∉ k → ∃ l ls, spl [s] 0 [] cs = l :: ls ∧ spl [s] 0 [] (k ++ cs) = (k ++ l) :: ls := by
  intro k
  induction k with
  | nil =>
    intro cs _
    obtain ⟨l, ls, e1, e2⟩ := spl_acc (s := s) cs []
    exact ⟨l, ls, e1, e1⟩
  | cons c k ih =>
    intro cs h
    have hc : ¬ c = s := fun e => h (by rw [e]; exact List.mem_cons_self)
    obtain ⟨l, ls, e1, e2⟩ := ih cs fun m => h (List.mem_cons_of_mem _ m)
    obtain ⟨l', ls', e3, e4⟩ := spl_acc (s := s) (k ++ cs) [c]
    rw [e2] at e3
    injection e3 with e5 e6
    refine ⟨l, ls, e1, ?_⟩
    rw [List.cons_append, spl_miss (by rw [pre_one]; exact decide_eq_false hc)]
    show spl [s] 0 ([] ++ [c]) (k ++ cs) = _
    rw [List.nil_append, e4, ← e5, ← e6]
    rfl
theorem spl_head {s : Nat} {cs l : Cs} {ls : List Cs} (h : spl [s] 0 [] cs = l :: ls) : ∀ c r, l = c :: r → ∃ r', cs = c :: r' := by
  intro c r e
  cases cs with
  | nil =>
    rw [spl_nil] at h
    injection h with h _
    rw [← h] at e
    cases e
  | cons d r' =>
    by_cases hd : d = s
    · rw [spl_hit (by rw [pre_one]; exact decide_eq_true hd)] at h
      injection h with h _
      rw [← h] at e
      cases e
    · obtain ⟨l2, ls2, e1, e2⟩ := spl_skip (s := s) [d] r' (by simpa using Ne.symm hd)
      rw [show [d] ++ r' = d :: r' from rfl, h] at e2
      injection e2 with e3 _
      rw [e] at e3
      injection e3 with e4 _
      exact ⟨r', by rw [e4]⟩
theorem row_app {S : Str} {l : Cs} (hl : ∀ c r, l = c :: r → c ∉ tl S) : ∀ {p : Cs}, (∀ x ∈ p, x ∈ tl S) → row S (p ++ l) = p.length
  | [], _ => by
    cases l with
    | nil => rfl
    | cons c r =>
      show row S (c :: r) = 0
      rw [row_step, if_neg (hl c r rfl)]
  | x :: p, h => by
    rw [List.cons_append, row_step, if_pos (h x List.mem_cons_self), row_app hl fun y hy => h y (List.mem_cons_of_mem _ hy)]
    rfl
theorem dig_facts : ∀ c ∈ tl DIGs, c ∉ tl LETs ∧ c ∈ tl SIGs := by decide +kernel
theorem one_facts : ∀ c ∈ tl ONEs, c ∉ tl LETs ∧ c ∉ tl DIGs ∧ c ≠ 33 ∧ c ≠ 35 ∧ c ≠ 32 ∧ c ≠ 10 := by decide +kernel
theorem sig_facts : ∀ c ∈ tl SIGs, c ≠ 35 ∧ c ≠ 32 ∧ c ≠ 10 := by decide +kernel
theorem wd_cases {w : Str} (h : wdB w = true) : ∃ c r, tl w = c :: r ∧ ((c ∈ tl LETs ∧ (∀ x ∈ r, x ∈ tl SIGs) ∧ r.length ≤ 11) ∨ (r = [] ∧ c ∈ tl DIGs) ∨ (r = [] ∧ c ∈ tl ONEs) ∨ c :: r = [33, 61]) := by
  unfold wdB at h
  split at h
  · cases h
  · rename_i c r e
    refine ⟨c, r, e, ?_⟩
    rcases (Bool.or_eq_true _ _ ▸ h : _ ∨ _) with h | h
    · rcases (Bool.or_eq_true _ _ ▸ h : _ ∨ _) with h | h
      · have h1 := (Bool.and_eq_true _ _ ▸ h : _ ∧ _)
        have h2 := (Bool.and_eq_true _ _ ▸ h1.1 : _ ∧ _)
        refine .inl ⟨of_decide_eq_true h2.1, fun x hx => of_decide_eq_true (List.all_eq_true.mp h2.2 x hx), of_decide_eq_true h1.2⟩
      · have h1 := (Bool.and_eq_true _ _ ▸ h : _ ∧ _)
        rcases (Bool.or_eq_true _ _ ▸ h1.2 : _ ∨ _) with h2 | h2
        · exact .inr (.inl ⟨of_decide_eq_true h1.1, of_decide_eq_true h2⟩)
        · exact .inr (.inr (.inl ⟨of_decide_eq_true h1.1, of_decide_eq_true h2⟩))
    · exact .inr (.inr (.inr (of_decide_eq_true h)))
theorem wd_len {w : Str} (h : wdB w = true) : w.length ≤ 12 := by
  obtain ⟨c, r, e, z⟩ := wd_cases h
  rw [len_tl, e, List.length_cons]
  rcases z with z | z | z | z
  · omega
  · rw [z.1]; decide
  · rw [z.1]; decide
  · injection z with _ z; rw [z]; decide
theorem wd_no10 {w : Str} (h : wdB w = true) : 10 ∉ tl w := by
  obtain ⟨c, r, e, z⟩ := wd_cases h
  rw [e]
  intro m
  rcases z with z | z | z | z
  · rcases List.mem_cons.mp m with m | m
    · exact (sig_facts c (lets_sigs z.1)).2.2 m.symm
    · exact (sig_facts 10 (z.2.1 10 m)).2.2 rfl
  · rw [z.1] at m
    exact (sig_facts c (dig_facts c z.2).2).2.2 (List.mem_singleton.mp m).symm
  · rw [z.1] at m
    exact (one_facts c z.2).2.2.2.2.2 (List.mem_singleton.mp m).symm
  · rw [z] at m
    exact absurd m (by decide)
/-- a word that stands ahead of what does not go on with it is read as it is -/
theorem word_at {w : Str} {l : Cs} (h : wdB w = true) (hl : ∀ c r, l = c :: r → c ∈ tl SIGs → ∀ x, (tl w).getLast? = some x → x ∉ tl SIGs) : ∃ c r, tl w ++ l = c :: r ∧ c ≠ 35 ∧ c ≠ 32 ∧ (wordW (c :: r)).1 ≠ "bad" ∧ (wordW (c :: r)).2 = w := by
  obtain ⟨c, r, e, z⟩ := wd_cases h
  have own_bad : ("own" : Str) ≠ "bad" := by decide +kernel
  have name_bad : ("name" : Str) ≠ "bad" := by decide +kernel
  refine ⟨c, r ++ l, by rw [e]; rfl, ?_⟩
  rcases z with ⟨h1, h2, h3⟩ | ⟨rfl, h1⟩ | ⟨rfl, h1⟩ | z
  · have cs := lets_sigs h1
    have allS : ∀ x ∈ c :: r, x ∈ tl SIGs := fun x hx => (List.mem_cons.mp hx).elim (fun q => by rw [q]; exact cs) (h2 x)
    have nl : ∀ d q, l = d :: q → d ∉ tl SIGs := fun d q eq hd => by
      obtain ⟨x, hx⟩ : ∃ x, (tl w).getLast? = some x := by
        cases q2 : (tl w).getLast? with
        | some x => exact ⟨x, rfl⟩
        | none =>
          rw [List.getLast?_eq_none_iff, e] at q2
          cases q2
      refine hl d q eq hd x hx (allS x ?_)
      have m := List.mem_of_getLast? hx
      rw [e] at m
      exact m
    have er : row SIGs (c :: (r ++ l)) = (c :: r).length := row_app (p := c :: r) nl allS
    have et : (c :: (r ++ l)).take (row SIGs (c :: (r ++ l))) = c :: r := by
      rw [er]
      exact List.take_left (l₁ := c :: r) (l₂ := l)
    have ew : wordW (c :: (r ++ l)) = ((if mkS (c :: r) ∈ OWNs then "own" else "name", mkS (c :: r)) : Str × Str) := by
      unfold wordW
      simp only
      rw [if_pos h1]
      unfold letW
      rw [et, if_neg (by rw [List.length_cons]; omega)]
    refine ⟨(sig_facts c cs).1, (sig_facts c cs).2.1, ?_, ?_⟩
    · rw [ew]
      show (if mkS (c :: r) ∈ OWNs then ("own" : Str) else "name") ≠ "bad"
      split
      · exact own_bad
      · exact name_bad
    · rw [ew]
      exact ext_tl (by rw [e]; rfl)
  · have df := dig_facts c h1
    have nl : ∀ d q, l = d :: q → d ∉ tl DIGs := fun d q eq hd => hl d q eq (dig_facts d hd).2 c (by rw [e]; rfl) df.2
    have er : row DIGs (c :: ([] ++ l)) = [c].length := row_app (p := [c]) nl (fun x hx => by rw [List.mem_singleton.mp hx]; exact h1)
    have et : (c :: ([] ++ l)).take (row DIGs (c :: ([] ++ l))) = [c] := by
      rw [er]
      rfl
    have ew : wordW (c :: ([] ++ l)) = (("number", mkS [c]) : Str × Str) := by
      unfold wordW
      simp only
      rw [if_neg df.1, if_pos h1]
      unfold figW
      rw [et, if_neg (by simp)]
    refine ⟨(sig_facts c df.2).1, (sig_facts c df.2).2.1, by rw [ew]; exact num_ne, ?_⟩
    rw [ew]
    exact ext_tl (by rw [e]; rfl)
  · have of := one_facts c h1
    have ew : wordW (c :: ([] ++ l)) = (("sign", mkS [c]) : Str × Str) := by
      unfold wordW
      simp only
      rw [if_neg of.1, if_neg of.2.1, if_neg (fun q => of.2.2.1 (by
        rw [List.take_succ_cons] at q
        exact List.head_eq_of_cons_eq q)), if_pos h1]
    refine ⟨of.2.2.2.1, of.2.2.2.2.1, by rw [ew]; exact sign_ne, ?_⟩
    rw [ew]
    exact ext_tl (by rw [e]; rfl)
  · injection z with z1 z2
    subst z1 z2
    have ew : wordW (33 :: ([61] ++ l)) = (("sign", "!=") : Str × Str) := by
      unfold wordW
      simp only
      rw [if_neg (by decide +kernel), if_neg (by decide +kernel), if_pos (show List.take 2 (33 :: ([61] ++ l)) = [33, 61] from rfl)]
    refine ⟨by decide, by decide, by rw [ew]; exact sign_ne, ?_⟩
    rw [ew]
    exact ext_tl (by rw [e]; exact bang_tl)
theorem okT_lines {cs : Cs} (h : OkT cs) : ∀ l ls, spl [10] 0 [] cs = l :: ls → (∀ n, (lineW n l).2 = false) ∧ ∀ k, (linesW k ls).2 = false := by
  have cons2 : ∀ {l : Cs} {ls : List Cs}, (∀ n, (lineW n l).2 = false) → (∀ k, (linesW k ls).2 = false) → ∀ k, (linesW k (l :: ls)).2 = false := fun h1 h2 k => by
    rw [linesW_cons, h1 0, if_neg Bool.false_ne_true]
    exact h2 (k + 1)
  induction h with
  | nil =>
    intro l ls e
    rw [spl_nil] at e
    injection e with e1 e2
    subst e1 e2
    exact ⟨fun n => rfl, fun k => rfl⟩
  | @blank cs _ ih =>
    intro l ls e
    obtain ⟨l2, ls2, e1, e2⟩ := spl_skip (s := 10) [32] cs (by decide)
    rw [show [32] ++ cs = 32 :: cs from rfl, e] at e2
    injection e2 with e3 e4
    subst e3 e4
    obtain ⟨a, b⟩ := ih l2 ls e1
    exact ⟨fun n => by
      show (lineW n (32 :: l2)).2 = false
      rw [lineW_blank]
      exact a (n + 1), b⟩
  | @line cs _ ih =>
    intro l ls e
    rw [spl_hit (by rw [pre_one]; rfl)] at e
    injection e with e1 e2
    subst e1
    obtain ⟨l2, ls2, e3, _⟩ := spl_acc (s := 10) cs []
    obtain ⟨a, b⟩ := ih l2 ls2 e3
    refine ⟨fun n => rfl, fun k => ?_⟩
    rw [← e2]
    show (linesW k (spl [10] 0 [] cs)).2 = false
    rw [e3]
    exact cons2 a b k
  | @note k cs hk _ ih =>
    intro l ls e
    obtain ⟨l2, ls2, e1, e2⟩ := spl_skip (s := 10) (35 :: k) (10 :: cs) (by
      intro m
      rcases List.mem_cons.mp m with m | m
      · cases m
      · exact hk m)
    rw [e] at e2
    injection e2 with e3 e4
    rw [spl_hit (by rw [pre_one]; rfl)] at e1
    injection e1 with e5 e6
    obtain ⟨l3, ls3, e7, _⟩ := spl_acc (s := 10) cs []
    obtain ⟨a, b⟩ := ih l3 ls3 e7
    refine ⟨fun n => ?_, fun j => ?_⟩
    · rw [e3]
      exact congrArg Prod.snd lineW_hash
    · rw [e4, ← e6]
      show (linesW j (spl [10] 0 [] cs)).2 = false
      rw [e7]
      exact cons2 a b j
  | @last k hk =>
    intro l ls e
    obtain ⟨l2, ls2, e1, e2⟩ := spl_skip (s := 10) (35 :: k) [] (by
      intro m
      rcases List.mem_cons.mp m with m | m
      · cases m
      · exact hk m)
    rw [List.append_nil, e] at e2
    rw [spl_nil] at e1
    injection e1 with e5 e6
    injection e2 with e3 e4
    refine ⟨fun n => ?_, fun j => ?_⟩
    · rw [e3]
      exact congrArg Prod.snd lineW_hash
    · rw [e4, ← e6]
      rfl
  | @word w cs hw hb _ ih =>
    intro l ls e
    obtain ⟨l2, ls2, e1, e2⟩ := spl_skip (s := 10) (tl w) cs (wd_no10 hw)
    rw [e] at e2
    injection e2 with e3 e4
    obtain ⟨a, b⟩ := ih l2 ls2 e1
    refine ⟨fun n => ?_, fun k => by rw [e4]; exact b k⟩
    obtain ⟨c, r, e5, h35, h32, h6, h7⟩ := word_at (l := l2) hw (fun c r q => by
      obtain ⟨r', e8⟩ := spl_head e1 c r q
      exact hb c r' e8)
    have e9 := lineW_word (n := n) h35 h32 h6
    rw [h7] at e9
    rw [e3, e5, e9]
    show (lineW (n + w.length) ((c :: r).drop w.length)).2 = false
    rw [← e5, len_tl, List.drop_left]
    exact a _
theorem okT_end {cs : Cs} (h : OkT cs) : (linesW 0 (linesOf cs)).2 = false := by
  obtain ⟨l, ls, e, _⟩ := spl_acc (s := 10) cs []
  obtain ⟨a, b⟩ := okT_lines h l ls e
  unfold linesOf
  rw [e, linesW_cons, a 0, if_neg Bool.false_ne_true]
  exact b 1
end Og

set_option Elab.async false
set_option linter.all false
set_option maxRecDepth 100000
set_option maxHeartbeats 8000000
namespace Og
open PySem L2
open TL
def spIsInt : Sp := fun vs H Q _ => ∃ i : Int, vs = [.int i] ∧ Q (.bl true) H
def gapTexts : List Str := ["\n", " # say x: ] 7\n", "  ", "\n\n  ", " #\n", " "]
def fourT : List Str := [" # say x: ] 7\n", "  ", "\n\n  ", " #\n"]
theorem four_gap : ∀ g ∈ fourT, g ∈ gapTexts := by decide +kernel
def GapOk (last word g : Str) : Prop := g ∈ gapTexts ∨ (g = Str.empty ∧ (last = Str.empty ∨ (∃ x, (tl last).getLast? = some x ∧ x ∉ tl SIGs) ∨ ∃ c r, tl word = c :: r ∧ c ∉ tl SIGs))
def spGap : Sp := fun vs H Q _ => ∃ (p l : Addr) (last word : Str) (n : Nat), vs = [.ref p, .str last, .str word] ∧ PenAt H p l (n + 2) ∧ Fits last ∧ wdB word = true ∧ (last = Str.empty ∨ wdB last = true) ∧
  ∀ g H', GapOk last word g → PenAt H' p l n → But p H H' → Q (.str g) H'
theorem alnum_sig : ∀ c ∈ tl SIGs, Txt.isalnum ⟨#[c]⟩ = true ∨ c = 95 := by decide +kernel
theorem not_of {b : Bool} (h : (!b) = true) (k : b = true) : False := by
  rw [k] at h
  cases h
theorem under_s : ("_" : Str) = mkS [95] := by decide +kernel
section
variable {P : Program} {w : World} {K : PySem.W.Frag} {mg : Str → Option Value} {base : Heap}
theorem scIsInt : FnScope ["thing"] ["thing"] (defScope sIsInt) := ⟨rfl, rfl, rfl, by decide +kernel, rfl, by decide +kernel, by decide +kernel⟩
theorem ok_IsInt (D : DefAt K mg "_law_is_int" sIsInt) (B : Blt mg)  : Callee P w K mg base CX0 "_law_is_int" 1 ["thing"] spIsInt := by
  refine callee_of D scIsInt (fun _ _ _ _ _ _ us hl => match us, hl with | [_], _ => rfl) (fun vs H Q E h => ?_) (fun f cdv A outer s H vs Q E hG hr h => ?_)
  · obtain ⟨i, rfl, _⟩ := h
    rfl
  · obtain ⟨i, rfl, q⟩ := h
    have hu : (A.deeper (PyProof.Rows.envOfC "_law_is_int" (defScope sIsInt) s.heap.objs.size f cdv)).units + 64 < cLine := hr.units
    have hu1 : (A.deeper (PyProof.Rows.envOfC "_law_is_int" (defScope sIsInt) s.heap.objs.size f cdv)).units + 1 < cLine := by omega
    have hu2 : (A.deeper (PyProof.Rows.envOfC "_law_is_int" (defScope sIsInt) s.heap.objs.size f cdv)).units < cLine := by omega
    refine ⟨_, (pss_one (ps_ret (pe_and (pe_callB call_isi (by rfl) B.isinstance (by decide +kernel) (pa_cons (pv 0) (pa_cons (pe_bltn (v := .ty "int") (by rfl) B.int (by decide +kernel) rfl) pa_nil))) (pe_one (pe_not (pe_callB call_isi (by rfl) B.isinstance (by decide +kernel) (pa_cons (pv 0) (pa_cons (pe_bltn (v := .ty "bool") (by rfl) B.bool (by decide +kernel) rfl) pa_nil)))))))), ?_⟩
    have k1 : PySem.W.kitOne K (.type "int") (.type "int") = some true := kit_ty (by decide +kernel)
    have k2 : PySem.W.kitOne K (.type "int") (.type "bool") = some false := kit_ty (by decide +kernel)
    refine ⟨_, rfl, _, .ty "int", _, .type "int", true, rfl, .ty "int", .base (.int i), k1, _, rfl, if_t ?_⟩
    refine ⟨_, rfl, _, .ty "bool", _, .type "bool", false, rfl, .ty "bool", .base (.int i), k2, _, rfl, ?_⟩
    exact q
end
section
variable {P : Program} {w : World} {K : PySem.W.Frag} {mg : Str → Option Value} {base : Heap}
theorem scGap : FnScope ["pen", "last", "word", "close", "way"] ["pen", "last", "word"] (defScope sGap) := ⟨rfl, rfl, rfl, by decide +kernel, rfl, by decide +kernel, by decide +kernel⟩
theorem ok_Gap (D : DefAt K mg "_law_gap" sGap) (B : Blt mg) (cDraw : Callee P w K mg base CX0 "_law_draw" 1 ["pen", "many"] spDraw) (cPick : Callee P w K mg base CX0 "_law_pick" 2 ["pen", "some"] (spPick K)) : Callee P w K mg base CX0 "_law_gap" 3 ["pen", "last", "word"] spGap := by
  refine callee_of D scGap (fun _ _ _ _ _ _ us hl => match us, hl with | [_, _, _], _ => rfl) (fun vs H Q E h => ?_) (fun f cdv A outer s H vs Q E hG hr h => ?_)
  · obtain ⟨p, l, last, word, n, rfl, _⟩ := h
    rfl
  · obtain ⟨p, l, last, word, n, rfl, hP, fl, hw, hla, fin⟩ := h
    have hu : (A.deeper (PyProof.Rows.envOfC "_law_gap" (defScope sGap) s.heap.objs.size f cdv)).units + 64 < cLine := hr.units
    have hu1 : (A.deeper (PyProof.Rows.envOfC "_law_gap" (defScope sGap) s.heap.objs.size f cdv)).units + 1 < cLine := by omega
    have hu2 : (A.deeper (PyProof.Rows.envOfC "_law_gap" (defScope sGap) s.heap.objs.size f cdv)).units < cLine := by omega
    refine ⟨_, (C8.pss_cut (ps_set (i := 3) scGap.nd rfl (Or.inl rfl) (pe_or (pe_cmpR op_eq (pv 1) pe_str (nomark _)) (pe_or (pe_not (pe_or (pe_m0 PySem.F.slot_str_isalnum PySem.F.type_str_isalnum mt_isalnum (pe_ix ix_str (pv 1) (pe_un un_neg pe_int) (fun _ _ => rfl))) (pe_one (pe_cmpR op_eq (pe_ix ix_str (pv 1) (pe_un un_neg pe_int) (fun _ _ => rfl)) pe_str (nomark _))))) (pe_one (pe_not (pe_or (pe_m0 PySem.F.slot_str_isalnum PySem.F.type_str_isalnum mt_isalnum (pe_ix ix_str (pv 2) pe_int (fun _ _ => rfl))) (pe_one (pe_cmpR op_eq (pe_ix ix_str (pv 2) pe_int (fun _ _ => rfl)) pe_str (nomark _)))))))))
      (pss_cons (ps_set (i := 4) scGap.nd rfl (Or.inl rfl) (pe_fn cDraw hG (hr.mono (by decide)) pass0 (pa_cons (pv 0) (pa_cons pe_int pa_nil))))
      (pss_cons (ps_if (pt_cmpR op_eq (pv 4) pe_int (nomark _)) (pss_one (ps_ret pe_str)) pss_nil)
      (pss_cons (ps_if (pt_cmpR op_eq (pv 4) pe_int (nomark _)) (pss_one (ps_ret (pe_fn cPick hG (hr.mono (by decide)) pass0 (pa_cons (pv 0) (pa_cons (pe_lst (pa_cons pe_str (pa_cons pe_str (pa_cons pe_str (pa_cons pe_str pa_nil))))) pa_nil))))) pss_nil)
      (pss_one (ps_ret (pe_ifExp (PW.pt (pw_and (pt_val (pv 3)) (pw_and1 (pt_cmpR op_lt (pv 4) pe_int (nomark _))))) pe_str pe_str))))))), ?_⟩
    have hlw := wd_len hw
    obtain ⟨wc, wr, ewd, _⟩ := wd_cases hw
    have big : 1000002 ≤ sizeLine := by decide
    have hfl : last.length ≤ 1000000 := fl
    refine ⟨fun σ' H' => ∃ b : Bool, σ' = [some (.ref p), some (.str last), some (.str word), some (.bl b), none] ∧ H' = H ∧ (b = true → last = Str.empty ∨ (∃ x, (tl last).getLast? = some x ∧ x ∉ tl SIGs) ∨ ∃ c r, tl word = c :: r ∧ c ∉ tl SIGs), ?_, ?_⟩
    · refine ⟨_, rfl, rfl, _, rfl, ite2 (fun h => ?_) (fun h => ?_)⟩
      · refine ⟨_, rfl, rfl, fun _ => .inl ?_⟩
        have z := of_decide_eq_true h
        injection z
      obtain ⟨x, hx⟩ : ∃ x, (tl last).getLast? = some x := by
        cases q2 : (tl last).getLast? with
        | some x => exact ⟨x, rfl⟩
        | none =>
          exfalso
          rw [List.getLast?_eq_none_iff] at q2
          refine h (decide_eq_true ?_)
          rw [show last = Str.empty from ext_tl q2]
          rfl
      have nx : Txt.isalnum ⟨#[x]⟩ = false → ¬ x = 95 → x ∉ tl SIGs := fun h1 h2 hm => (alnum_sig x hm).elim (fun z => by rw [h1] at z; cases z) h2
      have nw : Txt.isalnum ⟨#[wc]⟩ = false → ¬ wc = 95 → wc ∉ tl SIGs := fun h1 h2 hm => (alnum_sig wc hm).elim (fun z => by rw [h1] at z; cases z) h2
      have atW : atI word.cps.toList 0 = some wc := by
        rw [show word.cps.toList = wc :: wr from ewd]
        exact atI0
      refine ⟨_, rfl, _, rfl, last, -1, x, rfl, rfl, by omega, atI_last hx, ⟨_, rfl⟩, _, rfl, rfl, True.intro, _, rfl, ite2 (fun h1 => ?_) (fun h1 => ?_)⟩
      · exact ⟨_, rfl, _, rfl, ite2 (fun z => Bool.noConfusion (show false = true from z)) (fun _ => ⟨_, rfl, word, 0, wc, rfl, rfl, by omega, atW, ⟨_, rfl⟩, _, rfl, rfl, True.intro, _, rfl, ite2 (fun g1 => ⟨_, rfl, false, rfl, rfl, fun z => by cases z⟩) (fun g1 => ⟨_, rfl, word, 0, wc, rfl, rfl, by omega, atW, rfl, _, rfl, _, rfl, rfl, fun z => .inr (.inr ⟨wc, wr, ewd, nw (by simpa using g1) fun q => not_of z ((sgn_eq under_s).mpr q)⟩)⟩)⟩)⟩
      · refine ⟨_, rfl, _, rfl, last, -1, x, rfl, rfl, by omega, atI_last hx, rfl, _, rfl, _, rfl, ite2 (fun h2 => ?_) (fun h2 => ?_)⟩
        · exact ⟨true, rfl, rfl, fun _ => .inr (.inl ⟨x, hx, nx (by simpa using h1) fun q => not_of h2 ((sgn_eq under_s).mpr q)⟩)⟩
        · exact ⟨_, rfl, word, 0, wc, rfl, rfl, by omega, atW, ⟨_, rfl⟩, _, rfl, rfl, True.intro, _, rfl, ite2 (fun g1 => ⟨_, rfl, false, rfl, rfl, fun z => by cases z⟩) (fun g1 => ⟨_, rfl, word, 0, wc, rfl, rfl, by omega, atW, rfl, _, rfl, _, rfl, rfl, fun z => .inr (.inr ⟨wc, wr, ewd, nw (by simpa using g1) fun q => not_of z ((sgn_eq under_s).mpr q)⟩)⟩)⟩
    rintro σ1 H1 ⟨b, rfl, rfl, hb⟩
    refine ⟨_, rfl, p, l, 9, n + 1, rfl, hP, by decide, by decide, fun r H2 r0 r1 hP2 bt2 => ?_⟩
    have two : 4 ≤ sizeLine := by omega
    refine ⟨_, rfl, rfl, _, rfl, ite2 (fun h => ?_) (fun h => ?_)⟩
    · exact fin _ _ (.inl (by decide +kernel)) (hP2.mono (by omega)) bt2
    refine ⟨_, rfl, rfl, _, rfl, ite2 (fun h => ?_) (fun h => ?_)⟩
    · refine ⟨_, rfl, by show 4 ≤ sizeLine; omega, fun q nq => ?_⟩
      have s3 := Same.new (o := .lst (fourT.map V.str)) nq
      refine ⟨p, l, .ref q, fourT.map .str, n, rfl, hP2.same s3, LsAt.sq (lsS fourT), (fun z => nomatch z), (by show 4 ≤ 1000; decide), fun v d H4 hd tv hP4 bt4 => ?_⟩
      obtain ⟨g, hg, rfl⟩ := mem_map_str hd
      have ev := tv.str_inv
      subst ev
      exact fin g _ (.inl (four_gap g hg)) hP4 ((bt2.trans (But.of s3)).trans bt4)
    cases b with
    | true =>
      refine ⟨_, rfl, _, rfl, if_t ⟨_, rfl, _, _, rfl, rfl, _, rfl, ite2 (fun h => ?_) (fun h => ?_)⟩⟩
      · exact fin _ _ (.inr ⟨rfl, hb rfl⟩) (hP2.mono (by omega)) bt2
      · exact fin _ _ (.inl (by decide +kernel)) (hP2.mono (by omega)) bt2
    | false =>
      refine ⟨_, rfl, _, rfl, ite2 (fun z => Bool.noConfusion (show false = true from z)) (fun _ => ite2 (fun z => Bool.noConfusion (show false = true from z)) (fun _ => ?_))⟩
      exact fin _ _ (.inl (by decide +kernel)) (hP2.mono (by omega)) bt2
end

end Og

set_option Elab.async false
set_option linter.all false
set_option maxRecDepth 100000
set_option maxHeartbeats 8000000
namespace Og
open PySem L2
open TL
theorem note_e : ∀ {k cs : Cs}, 10 ∉ k → OkT cs → OkT (32 :: 35 :: k ++ 10 :: cs) := fun h k => .blank (.note h k)
theorem gap_ok : ∀ g ∈ gapTexts, ∀ cs, OkT cs → OkT (tl g ++ cs) ∧ ∃ c r, tl g = c :: r ∧ c ∉ tl SIGs := by
  have e1 : tl ("\n" : Str) = [10] := by decide +kernel
  have e2 : tl (" # say x: ] 7\n" : Str) = 32 :: 35 :: [32, 115, 97, 121, 32, 120, 58, 32, 93, 32, 55] ++ [10] := by decide +kernel
  have e3 : tl ("  " : Str) = [32, 32] := by decide +kernel
  have e4 : tl ("\n\n  " : Str) = [10, 10, 32, 32] := by decide +kernel
  have e5 : tl (" #\n" : Str) = 32 :: 35 :: [] ++ [10] := by decide +kernel
  have e6 : tl (" " : Str) = [32] := by decide +kernel
  have n32 : 32 ∉ tl SIGs := by decide +kernel
  have n10 : 10 ∉ tl SIGs := by decide +kernel
  intro g hg cs h
  rcases List.mem_cons.mp hg with rfl | hg
  · rw [e1]
    exact ⟨.line h, _, _, rfl, n10⟩
  rcases List.mem_cons.mp hg with rfl | hg
  · rw [e2]
    refine ⟨?_, _, _, rfl, n32⟩
    exact note_e (k := [32, 115, 97, 121, 32, 120, 58, 32, 93, 32, 55]) (by decide) h
  rcases List.mem_cons.mp hg with rfl | hg
  · rw [e3]
    exact ⟨.blank (.blank h), _, _, rfl, n32⟩
  rcases List.mem_cons.mp hg with rfl | hg
  · rw [e4]
    exact ⟨.line (.line (.blank (.blank h))), _, _, rfl, n10⟩
  rcases List.mem_cons.mp hg with rfl | hg
  · rw [e5]
    exact ⟨note_e (k := []) (by decide) h, _, _, rfl, n32⟩
  · rw [List.mem_singleton.mp hg, e6]
    exact ⟨.blank h, _, _, rfl, n32⟩
def endTexts : List Str := ["", "", "\n", " ", " # the end", "#"]
theorem end_ok : ∀ g ∈ endTexts, OkT (tl g) ∧ ∀ c r, tl g = c :: r → c ∉ tl SIGs := by
  have e1 : tl ("" : Str) = [] := by decide +kernel
  have e2 : tl ("\n" : Str) = [10] := by decide +kernel
  have e3 : tl (" " : Str) = [32] := by decide +kernel
  have e4 : tl (" # the end" : Str) = 32 :: 35 :: [32, 116, 104, 101, 32, 101, 110, 100] := by decide +kernel
  have e5 : tl ("#" : Str) = 35 :: [] := by decide +kernel
  have n32 : 32 ∉ tl SIGs := by decide +kernel
  have n10 : 10 ∉ tl SIGs := by decide +kernel
  have n35 : 35 ∉ tl SIGs := by decide +kernel
  intro g hg
  rcases List.mem_cons.mp hg with rfl | hg
  · rw [e1]
    exact ⟨.nil, fun c r q => nomatch q⟩
  rcases List.mem_cons.mp hg with rfl | hg
  · rw [e1]
    exact ⟨.nil, fun c r q => nomatch q⟩
  rcases List.mem_cons.mp hg with rfl | hg
  · rw [e2]
    exact ⟨.line .nil, fun c r q => by injection q with q _; rw [← q]; exact n10⟩
  rcases List.mem_cons.mp hg with rfl | hg
  · rw [e3]
    exact ⟨.blank .nil, fun c r q => by injection q with q _; rw [← q]; exact n32⟩
  rcases List.mem_cons.mp hg with rfl | hg
  · rw [e4]
    exact ⟨.blank (.last (by decide)), fun c r q => by injection q with q _; rw [← q]; exact n32⟩
  · rw [List.mem_singleton.mp hg, e5]
    exact ⟨.last (by decide), fun c r q => by injection q with q _; rw [← q]; exact n35⟩
def Asc (x : Str) : Prop := ∀ c ∈ tl x, c < 128
theorem Asc.app {x y : Str} (h : Asc x) (k : Asc y) : Asc (x ++ y) := fun c hc => by
  rw [tl_append] at hc
  exact (List.mem_append.mp hc).elim (h c) (k c)
theorem gap_asc : ∀ g ∈ gapTexts, Asc g ∧ g.length ≤ 14 := by
  unfold Asc
  decide +kernel
theorem end_asc : ∀ g ∈ endTexts, Asc g ∧ g.length ≤ 14 := by
  unfold Asc
  decide +kernel
theorem sigs_asc : ∀ c ∈ tl SIGs, c < 128 := by decide +kernel
theorem ones_asc : ∀ c ∈ tl ONEs, c < 128 := by decide +kernel
theorem wd_asc {w : Str} (h : wdB w = true) : Asc w := by
  obtain ⟨c, r, e, z⟩ := wd_cases h
  intro x hx
  rw [e] at hx
  rcases z with z | z | z | z
  · rcases List.mem_cons.mp hx with rfl | hx
    · exact sigs_asc _ (lets_sigs z.1)
    · exact sigs_asc _ (z.2.1 x hx)
  · rw [z.1] at hx
    rw [List.mem_singleton.mp hx]
    exact sigs_asc _ (dig_facts c z.2).2
  · rw [z.1] at hx
    rw [List.mem_singleton.mp hx]
    exact ones_asc _ z.2
  · rw [z] at hx
    exact (show ∀ x ∈ [33, 61], x < 128 by decide) x hx
structure TxOk (x : Str) : Prop where
  ok : OkT (tl x)
  len : x.length ≤ 100000
  asc : Asc x
/-- a text of words and gaps, as far as it has come -/
structure LoSt (text last : Str) (i : Nat) : Prop where
  go : ∀ cs, OkT cs → (∀ c r, cs = c :: r → c ∈ tl SIGs → ∀ x, (tl last).getLast? = some x → x ∉ tl SIGs) → OkT (tl text ++ cs)
  len : text.length ≤ 26 * i
  asc : Asc text
theorem len_app {x y : Str} : (x ++ y).length = x.length + y.length := by
  rw [len_tl, tl_append, List.length_append, ← len_tl, ← len_tl]
theorem LoSt.step {text last g w : Str} {i : Nat} (h : LoSt text last i) (hg : GapOk last w g) (hw : wdB w = true) : LoSt (text ++ g ++ w) w (i + 1) := by
  have hl := wd_len hw
  have hga : Asc g ∧ g.length ≤ 14 := by
    rcases hg with hg | ⟨rfl, _⟩
    · exact gap_asc g hg
    · exact ⟨(fun c hc => nomatch hc), Nat.zero_le _⟩
  refine ⟨fun cs hc hb => ?_, ?_, (h.asc.app hga.1).app (wd_asc hw)⟩
  · rw [tl_append, tl_append, List.append_assoc, List.append_assoc]
    have h1 : OkT (tl w ++ cs) := .word hw hb hc
    rcases hg with hg | ⟨rfl, hg⟩
    · obtain ⟨h2, c, r, e, hn⟩ := gap_ok g hg _ h1
      refine h.go _ h2 fun c' r' q hs => ?_
      rw [e] at q
      injection q with q _
      rw [← q] at hs
      exact absurd hs hn
    · show OkT (tl text ++ (tl w ++ cs))
      refine h.go _ h1 fun c r q hs x hx => ?_
      rcases hg with rfl | ⟨y, hy, hn⟩ | ⟨c', r', e, hn⟩
      · cases hx
      · rw [hx] at hy
        cases hy
        exact hn
      · rw [e] at q
        injection q with q _
        rw [← q] at hs
        exact absurd hs hn
  · rw [len_app, len_app]
    have := h.len
    have := hga.2
    omega
theorem LoSt.fin {text last g : Str} {i : Nat} (h : LoSt text last i) (hg : g ∈ endTexts) (hi : i ≤ 3800) : TxOk (text ++ g) := by
  obtain ⟨h1, h2⟩ := end_ok g hg
  obtain ⟨h3, h4⟩ := end_asc g hg
  refine ⟨?_, ?_, h.asc.app h3⟩
  · rw [tl_append]
    exact h.go _ h1 fun c r q hs => absurd hs (h2 c r q)
  · rw [len_app]
    have := h.len
    omega
theorem treeW_len {b : Bk} (h : BkS b) : (treeW b).length ≤ 3600 := by
  have k1 := flatM_len (xs := b.kinds) (g := kG) (k := 60) (fun t ht => kG_len h t ht)
  have k2 := flatM_len (xs := b.tells) (g := tG) (k := 60) (fun t ht => tG_len h t ht)
  have k3 := flatM_len (xs := b.says) (g := sG) (k := 60) (fun t ht => sG_len h t ht)
  have := h.k.1
  have := h.t.1
  have := h.s.1
  have e : treeW b = b.kinds.flatMap kG ++ b.tells.flatMap tG ++ b.says.flatMap sG := rfl
  rw [e, List.length_append, List.length_append]
  omega
theorem join_ok : ∀ {ws : List Str}, WdAll ws → OkT (joinL [32] (ws.map tl)) ∧ (joinL [32] (ws.map tl)).length ≤ 13 * ws.length ∧ ∀ c ∈ joinL [32] (ws.map tl), c < 128
  | [], _ => ⟨.nil, Nat.zero_le _, fun c hc => nomatch hc⟩
  | [w], h => by
    have hw := h w List.mem_cons_self
    have e : joinL [32] ([w].map tl) = tl w := rfl
    rw [e]
    refine ⟨?_, by rw [← len_tl]; have := wd_len hw; show _ ≤ 13; omega, wd_asc hw⟩
    have z := OkT.word (cs := []) hw (fun c r q => nomatch q) .nil
    rw [List.append_nil] at z
    exact z
  | w :: w2 :: r, h => by
    have hw := h w List.mem_cons_self
    obtain ⟨a, b, c⟩ := join_ok (ws := w2 :: r) fun x hx => h x (List.mem_cons_of_mem _ hx)
    have e : joinL [32] ((w :: w2 :: r).map tl) = tl w ++ (32 :: joinL [32] ((w2 :: r).map tl)) := by
      show tl w ++ ([32] ++ joinL [32] ((w2 :: r).map tl)) = _
      rfl
    rw [e]
    have n32 : 32 ∉ tl SIGs := by decide +kernel
    refine ⟨.word hw (fun d q eq hs => ?_) (.blank a), ?_, fun d hd => ?_⟩
    · injection eq with eq _
      rw [← eq] at hs
      exact absurd hs n32
    · have := wd_len hw
      rw [List.length_append, ← len_tl, List.length_cons, List.length_cons]
      rw [List.length_cons] at b
      rw [List.length_cons]
      omega
    · rcases List.mem_append.mp hd with hd | hd
      · exact wd_asc hw d hd
      · rcases List.mem_cons.mp hd with rfl | hd
        · decide
        · exact c d hd
theorem lens_sum : ∀ {ws : List Str}, WdAll ws → (ws.map (·.length)).sum ≤ 12 * ws.length
  | [], _ => Nat.zero_le _
  | w :: r, h => by
    have := wd_len (h w List.mem_cons_self)
    have := lens_sum (ws := r) fun x hx => h x (List.mem_cons_of_mem _ hx)
    simp only [List.map_cons, List.sum_cons, List.length_cons]
    omega
def spTextOf (K : PySem.W.Frag) : Sp := fun vs H Q _ => ∃ (b : Bk) (v : V), vs = [v] ∧ Tp K H v b.d ∧ BkV b ∧ ∀ x H', Same H H' → TxOk x → Q (.str x) H'
def spLoose (K : PySem.W.Frag) : Sp := fun vs H Q _ => ∃ (p l : Addr) (b : Bk) (v : V) (n : Nat), vs = [.ref p, v] ∧ PenAt H p l (n + 10000) ∧ Tp K H v b.d ∧ BkV b ∧ ∀ x H', TxOk x → PenAt H' p l n → But p H H' → Q (.str x) H'
section
variable {P : Program} {w : World} {K : PySem.W.Frag} {mg : Str → Option Value} {base : Heap}
theorem scTextOf : FnScope ["tree"] ["tree"] (defScope sTextOf) := ⟨rfl, rfl, rfl, by decide +kernel, rfl, by decide +kernel, by decide +kernel⟩
theorem ok_TextOf (D : DefAt K mg "_law_text_of" sTextOf) (B : Blt mg) (cTreeW : Callee P w K mg base CX0 "_law_tree_words" 4 ["tree"] (spWds K Bk.d BkS treeW)) : Callee P w K mg base CX0 "_law_text_of" 5 ["tree"] (spTextOf K) := by
  refine callee_of D scTextOf (fun _ _ _ _ _ _ us hl => match us, hl with | [_], _ => rfl) (fun vs H Q E h => ?_) (fun f cdv A outer s H vs Q E hG hr h => ?_)
  · obtain ⟨b, v, rfl, _⟩ := h
    rfl
  · obtain ⟨b, v, rfl, tv, hb, fin⟩ := h
    have hu : (A.deeper (PyProof.Rows.envOfC "_law_text_of" (defScope sTextOf) s.heap.objs.size f cdv)).units + 64 < cLine := hr.units
    have hu1 : (A.deeper (PyProof.Rows.envOfC "_law_text_of" (defScope sTextOf) s.heap.objs.size f cdv)).units + 1 < cLine := by omega
    have hu2 : (A.deeper (PyProof.Rows.envOfC "_law_text_of" (defScope sTextOf) s.heap.objs.size f cdv)).units < cLine := by omega
    refine ⟨_, (pss_one (ps_ret (pe_join pe_str (pe_fn cTreeW hG (hr.mono (by decide)) pass0 (pa_cons (pv 0) pa_nil))))), ?_⟩
    have hs := hb.toS
    have ok := treeW_ok hb
    have wl := treeW_len hs
    have ls := lens_sum ok
    refine ⟨⟨_, rfl⟩, _, rfl, b, v, rfl, tv, hs, fun q H' nq s' l' => ?_⟩
    obtain ⟨xs, e, t⟩ := l'
    have ex := TpAll.strs t
    subst ex
    obtain ⟨j1, j2, j3⟩ := join_ok ok
    have et : tl (Txt.join " " (treeW b)) = joinL [32] ((treeW b).map tl) := by
      rw [join_eq, tl_join]
      rfl
    refine ⟨_, q, treeW b, rfl, rfl, .inl (SqL.of e), by show _ + _ * 1 ≤ _; omega, fin _ _ s' ⟨by rw [et]; exact j1, by rw [len_tl, et]; omega, fun c hc => j3 c (by rw [← et]; exact hc)⟩⟩
end
section
variable {P : Program} {w : World} {K : PySem.W.Frag} {mg : Str → Option Value} {base : Heap}
theorem scLooseText : FnScope ["pen", "tree", "text", "last", "word"] ["pen", "tree"] (defScope sLooseText) := ⟨rfl, rfl, rfl, by decide +kernel, rfl, by decide +kernel, by decide +kernel⟩
theorem ok_LooseText (D : DefAt K mg "_law_loose_text" sLooseText) (B : Blt mg) (cTreeW : Callee P w K mg base CX0 "_law_tree_words" 4 ["tree"] (spWds K Bk.d BkS treeW)) (cPick : Callee P w K mg base CX0 "_law_pick" 2 ["pen", "some"] (spPick K)) (cGap : Callee P w K mg base CX0 "_law_gap" 3 ["pen", "last", "word"] spGap) : Callee P w K mg base CX0 "_law_loose_text" 5 ["pen", "tree"] (spLoose K) := by
  refine callee_of D scLooseText (fun _ _ _ _ _ _ us hl => match us, hl with | [_, _], _ => rfl) (fun vs H Q E h => ?_) (fun f cdv A outer s H vs Q E hG hr h => ?_)
  · obtain ⟨p, l, b, v, n, rfl, _⟩ := h
    rfl
  · obtain ⟨p, l, b, v, n, rfl, hP, tv, hb, fin⟩ := h
    have hu : (A.deeper (PyProof.Rows.envOfC "_law_loose_text" (defScope sLooseText) s.heap.objs.size f cdv)).units + 64 < cLine := hr.units
    have hu1 : (A.deeper (PyProof.Rows.envOfC "_law_loose_text" (defScope sLooseText) s.heap.objs.size f cdv)).units + 1 < cLine := by omega
    have hu2 : (A.deeper (PyProof.Rows.envOfC "_law_loose_text" (defScope sLooseText) s.heap.objs.size f cdv)).units < cLine := by omega
    refine ⟨_, (pss_cons (ps_asg (pe_tup (pa_cons pe_str (pa_cons pe_str pa_nil))) (pg_tup rfl (pgs_cons (pg_name (i := 2) scLooseText.nd rfl (Or.inl rfl)) (pgs_cons (pg_name (i := 3) scLooseText.nd rfl (Or.inl rfl)) pgs_nil))))
      (pss_cons (ps_for PassesOwn.never rfl (pi_list (pe_fn cTreeW hG (hr.mono (by decide)) pass0 (pa_cons (pv 1) pa_nil))) (pg_name (i := 4) scLooseText.nd rfl (Or.inl rfl)) (pss_one (ps_par (i := 2) (j := 3) rfl scLooseText.nd rfl rfl (by decide) rfl rfl (pa_cons (pe_op op_add_str (pe_op op_add_str (pv 2) (pe_fn cGap hG (hr.mono (by decide)) pass0 (pa_cons (pv 0) (pa_cons (pv 3) (pa_cons (pv 4) pa_nil))))) (pv 4)) (pa_cons (pv 4) pa_nil)) (by rfl))))
      (pss_one (ps_ret (pe_op op_add_str (pv 2) (pe_fn cPick hG (hr.mono (by decide)) pass0 (pa_cons (pv 0) (pa_cons (pe_lst (pa_cons pe_str (pa_cons pe_str (pa_cons pe_str (pa_cons pe_str (pa_cons pe_str (pa_cons pe_str pa_nil))))))) pa_nil)))))))), ?_⟩
    have hs := hb.toS
    have ok := treeW_ok hb
    have wl := treeW_len hs
    have big : 1000002 ≤ sizeLine := by decide
    refine ⟨by show 2 ≤ sizeLine; omega, fun q1 n1 => ⟨q1, _, rfl, SqT.of upd_same, rfl, _, _, rfl, _, _, rfl, rfl, ?_⟩⟩
    have s1 := Same.new (o := .tup [V.str "", .str ""]) n1
    refine ⟨_, rfl, b, v, rfl, tv.same s1, hs, fun q H2 nq s2 l2 => ?_⟩
    obtain ⟨xs, e, t⟩ := l2
    have ex := TpAll.strs t
    subst ex
    have s12 := s1.trans s2
    have hP2 := hP.same s12
    refine ⟨q, rfl, ⟨_, SqL.of e⟩, ?_⟩
    have lw : ((treeW b).map V.str).length = (treeW b).length := List.length_map ..
    have qp : q ∉ [p] := LsAt.ne_pen (K := K) ⟨_, e, t⟩ hP2
    refine for_list (K := K) (a := q) (xs := (treeW b).map V.str) (fun i σ' H' => ∃ (text last : Str) (w4 : Option V), σ' = [some (.ref p), some v, some (.str text), some (.str last), w4] ∧ LoSt text last i ∧ (last = Str.empty ∨ wdB last = true) ∧ PenAt H' p l (n + 1 + 2 * ((treeW b).length - i)) ∧ Ext [p] H2 H') ?_ ?_ ?_ ?_
    · refine ⟨"", "", _, rfl, ⟨fun cs h _ => ?_, Nat.zero_le _, fun c hc => nomatch hc⟩, .inl rfl, hP2.mono (by omega), Ext.refl _⟩
      show OkT ([] ++ cs)
      exact h
    · rintro i σ' H' hi ⟨_, _, _, rfl, _, _, _, x'⟩
      exact SqL.of (x' q _ e qp)
    · rintro i x σ' H' hi ⟨text, last, w4, rfl, st, hla, hP', x'⟩
      rw [List.getElem?_map] at hi
      obtain ⟨w0, h2i, rfl⟩ := Option.map_eq_some_iff.mp hi
      have hw := ok w0 (List.mem_of_getElem? h2i)
      have hil := (List.getElem?_eq_some_iff.mp h2i).1
      have ll : Fits last := by
        rcases hla with rfl | h
        · exact Nat.zero_le _
        · have := wd_len h
          unfold Fits
          omega
      have tlen := st.len
      refine ⟨_, rfl, _, rfl, _, rfl, _, rfl, p, l, last, w0, n + 1 + 2 * ((treeW b).length - (i + 1)), rfl, hP'.mono (by omega), ll, hw, hla, fun g H3 hg hP3 bt3 => ?_⟩
      have st2 := st.step hg hw
      have gl : g.length ≤ 14 := by
        rcases hg with hg | ⟨rfl, _⟩
        · exact (gap_asc g hg).2
        · exact Nat.zero_le _
      have wl0 := wd_len hw
      refine ⟨_, _, rfl, rfl, by omega, _, rfl, _, _, rfl, rfl, by rw [len_app]; omega, _, rfl, ⟨_, _, rfl, ?_⟩⟩
      exact ⟨_, _, _, rfl, st2, .inr hw, hP3, x'.trans (Ext.but bt3)⟩
    rintro σ' H' ⟨text, last, w4, rfl, st, hla, hP', x'⟩
    rw [lw] at st hP'
    refine ⟨_, rfl, _, rfl, by show 6 ≤ sizeLine; omega, fun q5 n5 => ?_⟩
    have s5 := Same.new (o := .lst (endTexts.map V.str)) n5
    refine ⟨p, l, .ref q5, endTexts.map .str, n, rfl, (hP'.same s5).mono (by omega), LsAt.sq (lsS endTexts), (fun z => nomatch z), (by show 6 ≤ 1000; decide), fun v5 d5 H6 hd tv5 hP6 bt6 => ?_⟩
    obtain ⟨g, hg, rfl⟩ := mem_map_str hd
    have ev := tv5.str_inv
    subst ev
    have tlen := st.len
    have gl := (end_asc g hg).2
    exact ⟨_, _, rfl, rfl, by omega, fin _ _ (st.fin hg (by omega)) hP6 (((But.of s12).trans (.ext x')).trans ((But.of s5).trans bt6))⟩
end

end Og

set_option Elab.async false
set_option linter.all false
set_option maxRecDepth 100000
set_option maxHeartbeats 8000000
namespace Og
open PySem L2
open TL
def spoilL : List Str := ["_", "!", "=", ":", "<", "\t", "0", "12", "#", "\n", " ", "a", "Z9", ",", ".", repS "x" 13, repS "1" 13, "007", "-", "{", "!=", repS "9" 12, repS "b" 12, "==", "!==", "/", "not"]
theorem spoil_asc : ∀ g ∈ spoilL, Asc g ∧ g.length ≤ 13 := by
  unfold Asc
  decide +kernel
def spSpoil : Sp := fun vs H Q _ => ∃ (p l : Addr) (x : Str) (n : Nat), vs = [.ref p, .str x] ∧ PenAt H p l (n + 3) ∧ x.length ≤ 400000 ∧ Asc x ∧ ∀ y H', y.length ≤ x.length + 13 → Asc y → PenAt H' p l n → But p H H' → Q (.str y) H'
theorem cutS_to {z : Str} {k : Nat} (h : k ≤ z.length) : tl (cutS z none (some (k : Int))) = (tl z).take k := by
  show ((tl z).drop (HT.sIx z.length 0 none)).take (HT.sIx z.length z.length (some (k : Int)) - HT.sIx z.length 0 none) = _
  rw [HT.sIx_none, HT.sIx_nat, Nat.sub_zero, Nat.min_eq_left h]
  rfl
theorem cutS_from {z : Str} {k : Nat} : tl (cutS z (some (k : Int)) none) = (tl z).drop k := by
  have hl := len_tl z
  show ((tl z).drop (HT.sIx z.length 0 (some (k : Int)))).take (HT.sIx z.length z.length none - HT.sIx z.length 0 (some (k : Int))) = _
  rw [HT.sIx_none, HT.sIx_nat]
  by_cases h : k ≤ z.length
  · rw [Nat.min_eq_left h]
    exact List.take_of_length_le (by rw [List.length_drop]; omega)
  · rw [Nat.min_eq_right (by omega), Nat.sub_self, List.take_zero, List.drop_eq_nil_of_le (by omega)]
structure SpOk (x y : Str) : Prop where
  len : y.length ≤ x.length + 13
  asc : Asc y
theorem spoil_ok {x s : Str} {k j : Nat} (hx : Asc x) (hs : Asc s ∧ s.length ≤ 13) (hk : k ≤ x.length) (hj : k ≤ j) : SpOk x (cutS x none (some (k : Int)) ++ s ++ cutS x (some (j : Int)) none) := by
  have hl := len_tl x
  refine ⟨?_, fun c hc => ?_⟩
  · rw [len_app, len_app, len_tl (cutS x none _), len_tl (cutS x _ none), cutS_to hk, cutS_from, List.length_take, List.length_drop]
    omega
  · rw [tl_append, tl_append, cutS_to hk, cutS_from] at hc
    rcases List.mem_append.mp hc with hc | hc
    · rcases List.mem_append.mp hc with hc | hc
      · exact hx c (List.mem_of_mem_take hc)
      · exact hs.1 c hc
    · exact hx c (List.mem_of_mem_drop hc)
theorem spoil_ok0 {x : Str} {k j : Nat} (hx : Asc x) (hk : k ≤ x.length) (hj : k ≤ j) : SpOk x (cutS x none (some (k : Int)) ++ cutS x (some (j : Int)) none) := by
  have hl := len_tl x
  refine ⟨?_, fun c hc => ?_⟩
  · rw [len_app, len_tl (cutS x none _), len_tl (cutS x _ none), cutS_to hk, cutS_from, List.length_take, List.length_drop]
    omega
  · rw [tl_append, cutS_to hk, cutS_from] at hc
    rcases List.mem_append.mp hc with hc | hc
    · exact hx c (List.mem_of_mem_take hc)
    · exact hx c (List.mem_of_mem_drop hc)
theorem Tp.tyx {K : PySem.W.Frag} {H : Hp} {v : V} {ds : List PyData} (h : Tp K H v (.tuple ds)) : TyX K H v (.type "tuple") := by
  obtain ⟨a, xs, rfl, sq, _⟩ := h.tup_inv
  rcases sq with (e | ⟨o, e⟩) | ⟨o, its, n, e, c, _⟩
  · exact .base (.tup e)
  · exact .fTuple e
  · exact .kTuple e c
def rLenS (K : PySem.W.Frag) : List V → Hp → VK → Prop := fun xs H Q => ∃ x ds, xs = [x] ∧ Sq K H x ds ∧ Q (.int ds.length) H
theorem all_true (n : Nat) : (List.range n).filterMap (fun _ => some (PyData.bool true)) = (List.replicate n true).map PyData.bool := by
  induction n with
  | zero => rfl
  | succ n ih =>
    rw [List.range_succ, List.filterMap_append, ih, List.replicate_succ', List.map_append]
    rfl
theorem TpAll.bools {K : PySem.W.Frag} {H : Hp} : ∀ {bs : List Bool} {vs : List V}, TpAll K H vs (bs.map .bool) → vs = bs.map V.bl
  | [], _, h => by cases h; rfl
  | b :: r, _, h => by
    cases h with
    | cons h1 h2 =>
      cases h1
      rw [TpAll.bools h2]
      rfl
def spTold (K : PySem.W.Frag) : Sp := fun vs H Q _ => ∃ (v : V) (tk : List Tok), vs = [v] ∧ Tp K H v (.tuple (tk.map tokD)) ∧ tk.length ≤ 1000001 ∧ ∀ H', Same H H' → Q (.bl true) H'
section
variable {P : Program} {w : World} {K : PySem.W.Frag} {mg : Str → Option Value} {base : Heap}
theorem scSpoilt : FnScope ["pen", "text", "at", "way", "sign"] ["pen", "text"] (defScope sSpoilt) := ⟨rfl, rfl, rfl, by decide +kernel, rfl, by decide +kernel, by decide +kernel⟩
theorem ok_Spoilt (D : DefAt K mg "_law_spoilt" sSpoilt) (B : Blt mg) (cDraw : Callee P w K mg base CX0 "_law_draw" 1 ["pen", "many"] spDraw) (cPick : Callee P w K mg base CX0 "_law_pick" 2 ["pen", "some"] (spPick K)) : Callee P w K mg base CX0 "_law_spoilt" 3 ["pen", "text"] spSpoil := by
  refine callee_of D scSpoilt (fun _ _ _ _ _ _ us hl => match us, hl with | [_, _], _ => rfl) (fun vs H Q E h => ?_) (fun f cdv A outer s H vs Q E hG hr h => ?_)
  · obtain ⟨p, l, x, n, rfl, _⟩ := h
    rfl
  · obtain ⟨p, l, x, n, rfl, hP, hl, ha, fin⟩ := h
    have hu : (A.deeper (PyProof.Rows.envOfC "_law_spoilt" (defScope sSpoilt) s.heap.objs.size f cdv)).units + 64 < cLine := hr.units
    have hu1 : (A.deeper (PyProof.Rows.envOfC "_law_spoilt" (defScope sSpoilt) s.heap.objs.size f cdv)).units + 1 < cLine := by omega
    have hu2 : (A.deeper (PyProof.Rows.envOfC "_law_spoilt" (defScope sSpoilt) s.heap.objs.size f cdv)).units < cLine := by omega
    refine ⟨_, (pss_cons (ps_par (i := 2) (j := 3) rfl scSpoilt.nd rfl rfl (by decide) rfl rfl (pa_cons (pe_fn cDraw hG (hr.mono (by decide)) pass0 (pa_cons (pv 0) (pa_cons (pe_op op_add (pe_callB call_len_str (by rfl) B.len (by decide +kernel) (pa_cons (pv 1) pa_nil)) pe_int) pa_nil))) (pa_cons (pe_fn cDraw hG (hr.mono (by decide)) pass0 (pa_cons (pv 0) (pa_cons pe_int pa_nil))) pa_nil)) (by rfl))
      (pss_cons (ps_set (i := 4) scSpoilt.nd rfl (Or.inl rfl) (pe_fn cPick hG (hr.mono (by decide)) pass0 (pa_cons (pv 0) (pa_cons (pe_lst (pa_cons pe_str (pa_cons pe_str (pa_cons pe_str (pa_cons pe_str (pa_cons pe_str (pa_cons pe_str (pa_cons pe_str (pa_cons pe_str (pa_cons pe_str (pa_cons pe_str (pa_cons pe_str (pa_cons pe_str (pa_cons pe_str (pa_cons pe_str (pa_cons pe_str (pa_cons (pe_op op_repS pe_str pe_int) (pa_cons (pe_op op_repS pe_str pe_int) (pa_cons pe_str (pa_cons pe_str (pa_cons pe_str (pa_cons pe_str (pa_cons (pe_op op_repS pe_str pe_int) (pa_cons (pe_op op_repS pe_str pe_int) (pa_cons pe_str (pa_cons pe_str (pa_cons pe_str (pa_cons pe_str pa_nil)))))))))))))))))))))))))))) pa_nil))))
      (pss_cons (ps_if (pt_cmpR op_eq (pv 3) pe_int (nomark _)) (pss_one (ps_ret (pe_op op_add_str (pe_slice sl_str (pv 1) po_none (po_some (pv 2))) (pe_slice sl_str (pv 1) (po_some (pe_op op_add (pv 2) pe_int)) po_none)))) pss_nil)
      (pss_cons (ps_if (pt_cmpR op_eq (pv 3) pe_int (nomark _)) (pss_one (ps_ret (pe_op op_add_str (pe_op op_add_str (pe_slice sl_str (pv 1) po_none (po_some (pv 2))) (pv 4)) (pe_slice sl_str (pv 1) (po_some (pe_op op_add (pv 2) pe_int)) po_none)))) pss_nil)
      (pss_one (ps_ret (pe_op op_add_str (pe_op op_add_str (pe_slice sl_str (pv 1) po_none (po_some (pv 2))) (pv 4)) (pe_slice sl_str (pv 1) (po_some (pv 2)) po_none)))))))), ?_⟩
    have big : 1000002 ≤ sizeLine := by decide
    refine ⟨_, rfl, _, rfl, x, rfl, by omega, _, _, rfl, rfl, p, l, (x.length : Int) + 1, n + 2, rfl, hP, by omega, by omega, fun r H1 r0 r1 hP1 bt1 => ?_⟩
    obtain ⟨k, rfl⟩ : ∃ k : Nat, r = (k : Int) := ⟨r.toNat, by omega⟩
    have hk : k ≤ x.length := by omega
    refine ⟨_, rfl, p, l, 4, n + 1, rfl, hP1, by decide, by decide, fun wy H2 w0 w1 hP2 bt2 => ⟨_, _, rfl, ?_⟩⟩
    refine ⟨_, rfl, _, 13, rfl, rfl, by decide, by decide +kernel, by decide +kernel, by decide +kernel, _, 13, rfl, rfl, by decide, by decide +kernel, by decide +kernel, by decide +kernel, _, 12, rfl, rfl, by decide, by decide +kernel, by decide +kernel, by decide +kernel, _, 12, rfl, rfl, by decide, by decide +kernel, by decide +kernel, by decide +kernel, by show 27 ≤ sizeLine; omega, fun q nq => ?_⟩
    have s3 := Same.new (o := .lst (spoilL.map V.str)) nq
    refine ⟨p, l, .ref q, spoilL.map .str, n, rfl, hP2.same s3, LsAt.sq (lsS spoilL), (fun z => nomatch z), (by show 27 ≤ 1000; decide), fun v d H4 hd tv hP4 bt4 => ?_⟩
    obtain ⟨g, hg, rfl⟩ := mem_map_str hd
    have ev := tv.str_inv
    subst ev
    have hga := spoil_asc g hg
    have bt : But p H H4 := (bt1.trans bt2).trans ((But.of s3).trans bt4)
    have go : ∀ y, SpOk x y → Q (.str y) H4 := fun y hy => fin y H4 hy.len hy.asc hP4 bt
    have c1 := cutS_length x none (some (k : Int))
    have c2 := cutS_length x (some ((k : Int) + 1)) none
    have c3 := cutS_length x (some (k : Int)) none
    have g13 := hga.2
    refine ⟨_, rfl, rfl, _, rfl, ite2 (fun h => ?_) (fun h => ?_)⟩
    · exact ⟨_, rfl, _, rfl, _, rfl, x, rfl, by omega, _, rfl, _, rfl, _, _, rfl, rfl, _, rfl, x, rfl, by omega, _, _, rfl, rfl, by omega, go _ (spoil_ok0 (j := k + 1) ha hk (by omega))⟩
    refine ⟨_, rfl, rfl, _, rfl, ite2 (fun h => ?_) (fun h => ?_)⟩
    · exact ⟨_, rfl, _, rfl, _, rfl, x, rfl, by omega, _, rfl, _, _, rfl, rfl, by omega, _, rfl, _, rfl, _, _, rfl, rfl, _, rfl, x, rfl, by omega, _, _, rfl, rfl, by rw [len_app]; omega, go _ (spoil_ok (j := k + 1) ha hga hk (by omega))⟩
    · exact ⟨_, rfl, _, rfl, _, rfl, x, rfl, by omega, _, rfl, _, _, rfl, rfl, by omega, _, rfl, _, rfl, _, rfl, x, rfl, by omega, _, _, rfl, rfl, by rw [len_app]; omega, go _ (spoil_ok (j := k) ha hga hk (Nat.le_refl _))⟩
end
section
variable {P : Program} {w : World} {K : PySem.W.Frag} {mg : Str → Option Value} {base : Heap}
theorem scToldOk : FnScope ["told", "word"] ["told"] (defScope sToldOk) := ⟨rfl, rfl, rfl, by decide +kernel, rfl, by decide +kernel, by decide +kernel⟩
theorem ok_ToldOk (D : DefAt K mg "_law_told_ok" sToldOk) (B : Blt mg) (cInt : Callee P w K mg base CX0 "_law_is_int" 1 ["thing"] spIsInt) : Callee P w K mg base CX0 "_law_told_ok" 2 ["told"] (spTold K) := by
  refine callee_of D scToldOk (fun _ _ _ _ _ _ us hl => match us, hl with | [_], _ => rfl) (fun vs H Q E h => ?_) (fun f cdv A outer s H vs Q E hG hr h => ?_)
  · obtain ⟨v, tk, rfl, _⟩ := h
    rfl
  · obtain ⟨v, tk, rfl, tv, hl, fin⟩ := h
    have hu : (A.deeper (PyProof.Rows.envOfC "_law_told_ok" (defScope sToldOk) s.heap.objs.size f cdv)).units + 64 < cLine := hr.units
    have hu1 : (A.deeper (PyProof.Rows.envOfC "_law_told_ok" (defScope sToldOk) s.heap.objs.size f cdv)).units + 1 < cLine := by omega
    have hu2 : (A.deeper (PyProof.Rows.envOfC "_law_told_ok" (defScope sToldOk) s.heap.objs.size f cdv)).units < cLine := by omega
    refine ⟨_, (pss_one (ps_ret (pe_and (pe_callB call_isi (by rfl) B.isinstance (by decide +kernel) (pa_cons (pv 0) (pa_cons (pe_bltn (v := .ty "tuple") (by rfl) B.tuple (by decide +kernel) rfl) pa_nil))) (pe_one (pe_callB (cr_all rfl) (by rfl) B.all (by decide +kernel) (pa_cons (pe_lc (own := [("word", 1)]) (g := (gName 1)) (tt := tYes) (te := tAndV (tCB (rIsi K) (tCons (tVar 1) (tCons (tC (.ty "tuple")) tNil))) (tAndV (tOp rEq (tCB (rLenS K) (tCons (tVar 1) tNil)) (tC (.int 4))) (tAndV (tCall spIsInt [] E0 (tCons (tOp (rIxS2 K) (tVar 1) (tC (.int 2))) tNil)) (tCall spIsInt [] E0 (tCons (tOp (rIxS2 K) (tVar 1) (tC (.int 3))) tNil))))) (by rfl) scToldOk.nd (pi_tup (pv 0)) (blkOk_by (own := [("word", 1)]) (N := ["told", "word"]) (sc := defScope sToldOk) (by decide +kernel)) (fun _ _ _ _ _ => (by exact pg_name (i := 1) scToldOk.nd rfl (Or.inl rfl))) (fun _ _ _ _ _ => pts_nil) (fun _ _ _ _ _ => by exact (pe_and (pe_callB call_isi (by rfl) B.isinstance (by decide +kernel) (pa_cons (pv 1) (pa_cons (pe_bltn (v := .ty "tuple") (by rfl) B.tuple (by decide +kernel) rfl) pa_nil))) (pe_and (pe_cmpR op_eq (pe_callB call_lenS (by rfl) B.len (by decide +kernel) (pa_cons (pv 1) pa_nil)) pe_int (nomark _)) (pe_and (pe_fn cInt hG (hr.mono (by decide)) pass0 (pa_cons (pe_ix ix_sq (pv 1) pe_int (fun _ _ => rfl)) pa_nil)) (pe_one (pe_fn cInt hG (hr.mono (by decide)) pass0 (pa_cons (pe_ix ix_sq (pv 1) pe_int (fun _ _ => rfl)) pa_nil)))))))) pa_nil)))))), ?_⟩
    have big : 1000002 ≤ sizeLine := by decide
    have k1 : PySem.W.kitOne K (.type "tuple") (.type "tuple") = some true := kit_ty (by decide +kernel)
    obtain ⟨a, xs, rfl, sq, t⟩ := tv.tup_inv
    have lx : xs.length = tk.length := by rw [t.length, List.length_map]
    refine ⟨_, rfl, _, .ty "tuple", _, .type "tuple", true, rfl, .ty "tuple", tv.tyx, k1, _, rfl, if_t ?_⟩
    refine ⟨_, rfl, a, rfl, ⟨xs, sq⟩, fun D hD => ?_⟩
    refine lc_it (walk_tup (xs := xs)) (LcN K D (Flt H D xs.length (fun _ => some (.bool true)))) Flt.start ?_ ?_ ?_
    · rintro i H3 hi ⟨ds, ⟨_, x, _⟩, _⟩
      exact Tk.ext x (.new hD) _ _ sq
    · rintro i x H3 H4 hi pv ⟨rfl, e⟩
      have x4 : Ext [D] H H4 := by
        obtain ⟨ds, ⟨_, x, _⟩, _⟩ := pv
        exact x
      have k4 : Tk K H H4 := Tk.ext x4 (.new hD)
      obtain ⟨d, e2, tx⟩ := t.getV e
      rw [List.getElem?_map] at e2
      obtain ⟨tok, e3, rfl⟩ := Option.map_eq_some_iff.mp e2
      have tx4 : Tp K H4 x (.tuple [.str tok.1, .str tok.2.1, .int (tok.2.2.1 : Nat), .int (tok.2.2.2 : Nat)]) := tx.keep k4
      have sqx : Sq K H4 x _ := .inr tx4
      refine ⟨rfl, ?_⟩
      unfold tYes
      refine if_t ?_
      refine ⟨_, rfl, _, .ty "tuple", _, .type "tuple", true, rfl, .ty "tuple", tx4.tyx, k1, _, rfl, if_t ?_⟩
      refine ⟨_, rfl, _, _, rfl, sqx, rfl, _, rfl, ite2 (fun _ => ?_) (fun h => absurd (decide_eq_true rfl) h)⟩
      refine ⟨_, rfl, _, 2, .int (tok.2.2.1 : Nat), sqx, rfl, rfl, fun y ty => ?_⟩
      have ey := ty.int_inv
      subst ey
      refine ⟨_, rfl, _, rfl, if_t ?_⟩
      refine ⟨_, rfl, _, 3, .int (tok.2.2.2 : Nat), sqx, rfl, rfl, fun y ty => ?_⟩
      have ey := ty.int_inv
      subst ey
      exact ⟨_, rfl, Flt.yes pv hi (by omega) (Same.refl _) (.bl true) rfl⟩
    rintro H3 ⟨ds, ⟨e, x3, _⟩, lD⟩
    rw [all_true] at e
    subst e
    obtain ⟨ys, ey, ty⟩ := lD
    have eys := TpAll.bools ty
    subst eys
    refine ⟨D, List.replicate xs.length true, rfl, SqL.of ey, ?_⟩
    have ea : (List.replicate xs.length true).all id = true := by simp
    rw [ea]
    exact fin H3 (fun b o e => x3 b o e (by simpa using ne_of_none e hD))
end

end Og

set_option Elab.async false
set_option linter.all false
set_option maxRecDepth 100000
set_option maxHeartbeats 8000000
namespace Og
open PySem L2
open TL
theorem asc_ok {x : Str} (h : Asc x) : PyData.strOk x = true := by
  unfold PyData.strOk
  rw [← Array.all_toList]
  exact List.all_eq_true.mpr fun c hc => decide_eq_true (by have := h c hc; omega)
def AscL (cs : Cs) : Prop := ∀ c ∈ cs, c < 128
theorem lits_asc : Asc "bad" ∧ Asc "word" ∧ Asc "own" ∧ Asc "name" ∧ Asc "number" ∧ Asc "sign" ∧ Asc "!=" ∧ Asc "end" ∧ Asc "" := by
  unfold Asc
  decide +kernel
theorem take_asc {cs : Cs} {n : Nat} (h : AscL cs) : Asc (mkS (cs.take n)) := fun c hc => h c (List.mem_of_mem_take hc)
theorem wordW_asc {cs : Cs} (h : AscL cs) : Asc (wordW cs).1 ∧ Asc (wordW cs).2 := by
  obtain ⟨a1, a2, a3, a4, a5, a6, a7, _⟩ := lits_asc
  unfold wordW
  split
  · exact ⟨a1, a6⟩
  · rename_i c r
    split
    · unfold letW
      split
      · exact ⟨a1, a2⟩
      · refine ⟨?_, take_asc h⟩
        show Asc (if mkS _ ∈ OWNs then ("own" : Str) else "name")
        split
        · exact a3
        · exact a4
    · split
      · unfold figW
        split
        · exact ⟨a1, a5⟩
        · exact ⟨a5, take_asc h⟩
      · split
        · exact ⟨a6, a7⟩
        · split
          · exact ⟨a6, fun x hx => h x (by rw [List.mem_singleton.mp (show x ∈ [c] from hx)]; exact List.mem_cons_self)⟩
          · exact ⟨a1, a6⟩
theorem lineF_asc : ∀ (f n : Nat) (cs : Cs), AscL cs → ∀ t ∈ (lineF f n cs).1, Asc t.1 ∧ Asc t.2.1 := by
  intro f
  induction f with
  | zero =>
    intro n cs _ t ht
    cases ht
  | succ f ih =>
    intro n cs h t ht
    cases cs with
    | nil => cases ht
    | cons c r =>
      unfold lineF at ht
      simp only at ht
      split at ht
      · cases ht
      · split at ht
        · exact ih _ _ (fun x hx => h x (List.mem_cons_of_mem _ hx)) t ht
        · split at ht
          · rw [List.mem_singleton.mp ht]
            exact wordW_asc h
          · rcases List.mem_cons.mp ht with ht | ht
            · rw [ht]
              exact wordW_asc h
            · exact ih _ _ (fun x hx => h x (List.mem_of_mem_drop hx)) t ht
theorem linesW_asc : ∀ (ls : List Cs) (k : Nat), (∀ l ∈ ls, AscL l) → ∀ t ∈ (linesW k ls).1, Asc t.1 ∧ Asc t.2.1 := by
  intro ls
  induction ls with
  | nil =>
    intro k _ t ht
    cases ht
  | cons l ls ih =>
    intro k h t ht
    have one : ∀ t ∈ (lineW 0 l).1.map (atLine k), Asc t.1 ∧ Asc t.2.1 := fun t ht => by
      obtain ⟨u, hu, rfl⟩ := List.mem_map.mp ht
      exact lineF_asc _ _ _ (h l List.mem_cons_self) u hu
    rw [linesW_cons] at ht
    split at ht
    · exact one t ht
    · rcases List.mem_append.mp ht with ht | ht
      · exact one t ht
      · exact ih (k + 1) (fun m hm => h m (List.mem_cons_of_mem _ hm)) t ht
theorem spl_asc {s : Nat} : ∀ (cs acc : Cs), AscL cs → AscL acc → ∀ l ∈ spl [s] 0 acc cs, AscL l := by
  intro cs
  induction cs with
  | nil =>
    intro acc _ ha l hl
    rw [spl_nil] at hl
    rw [List.mem_singleton.mp hl]
    exact ha
  | cons c r ih =>
    intro acc h ha l hl
    have hr : AscL r := fun x hx => h x (List.mem_cons_of_mem _ hx)
    by_cases hc : c = s
    · rw [spl_hit (by rw [pre_one]; exact decide_eq_true hc)] at hl
      rcases List.mem_cons.mp hl with rfl | hl
      · exact ha
      · exact ih [] hr (fun x hx => nomatch hx) l hl
    · rw [spl_miss (by rw [pre_one]; exact decide_eq_false hc)] at hl
      refine ih _ hr (fun x hx => ?_) l hl
      rcases List.mem_append.mp hx with hx | hx
      · exact ha x hx
      · rw [List.mem_singleton.mp hx]
        exact h c List.mem_cons_self
theorem wordsW_asc {cs : Cs} (h : AscL cs) : ∀ t ∈ wordsW cs, Asc t.1 ∧ Asc t.2.1 := by
  have z := linesW_asc (linesOf cs) 0 (spl_asc cs [] h fun x hx => nomatch hx)
  intro t ht
  unfold wordsW at ht
  split at ht
  · exact z t ht
  · rcases List.mem_append.mp ht with ht | ht
    · exact z t ht
    · rw [List.mem_singleton.mp ht]
      exact ⟨lits_asc.2.2.2.2.2.2.2.1, lits_asc.2.2.2.2.2.2.2.2⟩
theorem wordsW_len (cs : Cs) : (wordsW cs).length ≤ cs.length + 1 := by
  have z := linesW_len (linesOf cs) 0
  have y := spl_sum (s := 10) cs []
  have e : ((linesOf cs).map List.length).sum ≤ cs.length := by
    have n := spl_ne (s := 10) cs []
    have : 0 < (spl [10] 0 [] cs).length := List.length_pos_iff.mpr n
    unfold linesOf
    rw [List.length_nil] at y
    omega
  unfold wordsW
  split
  · omega
  · rw [List.length_append]
    show _ + 1 ≤ _
    omega
def toksD (x : Str) : PyData := .tuple ((wordsW (tl x)).map tokD)
theorem tokD_sh {t : Tok} (h : Asc t.1 ∧ Asc t.2.1) : ShB 1 (tokD t) := ShB.tup fun d hd => by
  rcases List.mem_cons.mp hd with rfl | hd
  · exact .str (asc_ok h.1)
  rcases List.mem_cons.mp hd with rfl | hd
  · exact .str (asc_ok h.2)
  rcases List.mem_cons.mp hd with rfl | hd
  · exact .int
  · rw [List.mem_singleton.mp hd]
    exact .int
theorem toksD_sh {x : Str} (h : Asc x) : SeqAt.shaped (toksD x) = true := by
  refine ShB.ok (n := 2) (ShB.tup fun d hd => ?_) (by decide)
  obtain ⟨t, ht, rfl⟩ := List.mem_map.mp hd
  exact tokD_sh (wordsW_asc h t ht)
theorem self_eqv {d : PyData} (h : SeqAt.shaped d = true) : PyData.eqv d d = true := SeqAt.eqv_refl d (SeqAt.canLay_of_shaped h)
def rListT (K : PySem.W.Frag) : List V → Hp → VK → Prop := fun xs H Q => ∃ z : Str, xs = [.str z] ∧ z.length ≤ sizeLine ∧ ∀ l H', H l = none → Same H H' → LsAt K H' l ((PyProof.Rows.signs z).map PyData.str) → Q (.ref l) H'
def rCatL (K : PySem.W.Frag) : R2 := fun x y H Q => ∃ l m ds es, x = .ref l ∧ y = .ref m ∧ LsAt K H l ds ∧ LsAt K H m es ∧ ds.length + es.length ≤ sizeLine ∧ ∀ p H', H p = none → Same H H' → LsAt K H' p (ds ++ es) → Q (.ref p) H'
def fourK : List Str := ["not", "may", "if", "kind"]
def rowL : List Str := PyProof.Rows.signs "ab_09 (),;:=!/#\n." ++ fourK
theorem row_facts : ∀ y ∈ rowL, Asc y ∧ y.length ≤ 4 := by
  unfold Asc
  decide +kernel
theorem row_ne : rowL ≠ [] := by decide +kernel
theorem row_len : rowL.length ≤ 1000 := by decide +kernel
theorem row_join : ∀ {ys : List Str}, (∀ y ∈ ys, y ∈ rowL) → (ys.map (·.length)).sum ≤ 4 * ys.length ∧ (∀ c ∈ joinL (tl "") (ys.map tl), c < 128) ∧ (joinL (tl "") (ys.map tl)).length ≤ 4 * ys.length
  | [], _ => ⟨Nat.zero_le _, (fun c hc => nomatch hc), Nat.zero_le _⟩
  | [w], h => by
    have hw := row_facts w (h w List.mem_cons_self)
    refine ⟨?_, hw.1, ?_⟩
    · simp only [List.map_cons, List.map_nil, List.sum_cons, List.sum_nil, List.length_cons, List.length_nil]
      omega
    · show (tl w).length ≤ 4
      rw [← len_tl]
      exact hw.2
  | w :: w2 :: r, h => by
    have hw := row_facts w (h w List.mem_cons_self)
    obtain ⟨a, b, c⟩ := row_join (ys := w2 :: r) fun x hx => h x (List.mem_cons_of_mem _ hx)
    have e : joinL (tl "") ((w :: w2 :: r).map tl) = tl w ++ joinL (tl "") ((w2 :: r).map tl) := by
      show tl w ++ (tl "" ++ joinL (tl "") ((w2 :: r).map tl)) = _
      rfl
    refine ⟨?_, fun d hd => ?_, ?_⟩
    · rw [List.map_cons, List.sum_cons, List.length_cons]
      omega
    · rw [e] at hd
      exact (List.mem_append.mp hd).elim (hw.1 d) (b d)
    · rw [e, List.length_append, ← len_tl, List.length_cons]
      omega
abbrev mkTok (a b : Str) (i j : Nat) : Tok := (a, b, i, j)
theorem w_1 : wordsW (tl ("" : Str)) = [mkTok "end" "" 0 0] := by decide +kernel
theorem w_2 : wordsW (tl ("a\n # b" : Str)) = [mkTok "name" "a" 0 0, mkTok "end" "" 1 4] := by decide +kernel
theorem w_3 : wordsW (tl ("x!=0" : Str)) = [mkTok "name" "x" 0 0, mkTok "sign" "!=" 0 1, mkTok "number" "0" 0 3, mkTok "end" "" 0 4] := by decide +kernel
theorem w_4 : wordsW (tl ("a b\t" : Str)) = [mkTok "name" "a" 0 0, mkTok "name" "b" 0 2, mkTok "bad" "sign" 0 3] := by decide +kernel
theorem lit_asc : Asc "" ∧ Asc "a\n # b" ∧ Asc "x!=0" ∧ Asc "a b\t" := by
  unfold Asc
  decide +kernel
theorem lit_fit : Fits "" ∧ Fits "a\n # b" ∧ Fits "x!=0" ∧ Fits "a b\t" := by
  unfold Fits
  decide +kernel
def spLaw44 (K : PySem.W.Frag) : Sp := fun vs H Q _ => ∃ (a : Addr) (ns : List Int), vs = [.ref a] ∧ SqL K H a (ns.map V.int) ∧ ns.length ≤ 63 ∧ ∀ H', Q (.bl true) H'
section
variable {P : Program} {w : World} {K : PySem.W.Frag} {mg : Str → Option Value} {base : Heap}
theorem scPLaw : FnScope ["script", "pen", "tree", "lap", "text", "told", "change", "row", "sign", "odd"] ["script"] (defScope sPLaw) := ⟨rfl, rfl, rfl, by decide +kernel, rfl, by decide +kernel, by decide +kernel⟩
theorem ok_law {f : Addr} {fd : FuncData} (F : Fun K "law" "law" sPLaw f fd) (B : Blt mg) (cPen : Callee P w K mg base CX0 "_law_pen" 1 ["script"] (spPen K)) (cDraw : Callee P w K mg base CX0 "_law_draw" 1 ["pen", "many"] spDraw) (cPick : Callee P w K mg base CX0 "_law_pick" 2 ["pen", "some"] (spPick K)) (cBook : Callee P w K mg base CX0 "_law_book" 7 ["pen"] (spBook K)) (cTextOf : Callee P w K mg base CX0 "_law_text_of" 5 ["tree"] (spTextOf K)) (cLoose : Callee P w K mg base CX0 "_law_loose_text" 5 ["pen", "tree"] (spLoose K)) (cOf : Callee P w K mg base CX0 "words_of" 5 ["text"] (spWordsOf K)) (cLawW : Callee P w K mg base CX0 "_law_words" 2 ["text"] (spWordsIn K)) (cTold : Callee P w K mg base CX0 "_law_told_ok" 2 ["told"] (spTold K)) (cSpoil : Callee P w K mg base CX0 "_law_spoilt" 3 ["pen", "text"] spSpoil) : FnOkG P w K mg base CX0 8 f fd ["script"] (spLaw44 K) := by
  refine fun_okG F scPLaw (fun vs H Q E h => ?_) (fun cdv A outer s H vs Q E hG hr h => ?_)
  · obtain ⟨a, ns, rfl, _⟩ := h
    rfl
  · obtain ⟨a, ns, rfl, hS, hlen, fin⟩ := h
    have hu : (A.deeper (PyProof.Rows.envOfC "law" (defScope sPLaw) s.heap.objs.size f cdv)).units + 64 < cLine := hr.units
    have hu1 : (A.deeper (PyProof.Rows.envOfC "law" (defScope sPLaw) s.heap.objs.size f cdv)).units + 1 < cLine := by omega
    have hu2 : (A.deeper (PyProof.Rows.envOfC "law" (defScope sPLaw) s.heap.objs.size f cdv)).units < cLine := by omega
    refine ⟨_, (pss_cons (ps_set (i := 1) scPLaw.nd rfl (Or.inr rfl) (pe_fn cPen hG (hr.mono (by decide)) pass0 (pa_cons (pv 0) pa_nil)))
      (pss_cons (ps_set (i := 2) scPLaw.nd rfl (Or.inl rfl) (pe_fn cBook hG (hr.mono (by decide)) pass0 (pa_cons (pv 1) pa_nil)))
      (pss_cons (ps_for PassesOwn.never rfl (pi_range1 rfl B.range (pa_cons pe_int pa_nil)) (pg_name (i := 3) scPLaw.nd rfl (Or.inl rfl)) (C8.pss_cut (ps_set (i := 4) scPLaw.nd rfl (Or.inl rfl) (pe_ifExp (pt_cmpR op_gt (pv 3) pe_int (nomark _)) (pe_fn cLoose hG (hr.mono (by decide)) pass0 (pa_cons (pv 1) (pa_cons (pv 2) pa_nil))) (pe_fn cTextOf hG (hr.mono (by decide)) pass0 (pa_cons (pv 2) pa_nil))))
      (pss_cons (ps_set (i := 5) scPLaw.nd rfl (Or.inl rfl) (pe_fn cOf hG (hr.mono (by decide)) pass0 (pa_cons (pv 4) pa_nil)))
      (pss_cons (ps_if (PW.pt (pw_or (pt_cmpR (op_neT hu) (pv 5) (pe_callTy call_tupS (by rfl) B.tuple (by decide +kernel) (pa_cons (pe_fn cLawW hG (hr.mono (by decide)) pass0 (pa_cons (pv 4) pa_nil)) pa_nil)) (nomark _)) (pw_or (pt_not (pt_val (pe_fn cTold hG (hr.mono (by decide)) pass0 (pa_cons (pv 5) pa_nil)))) (pw_or1 (pt_cmpR op_ne (pe_ix ix_sq (pe_ix ix_sq (pv 5) (pe_un un_neg pe_int) (fun _ _ => rfl)) pe_int (fun _ _ => rfl)) pe_str (nomark _)))))) (pss_one (ps_ret pe_bl)) pss_nil)
      (pss_one (ps_for PassesOwn.never rfl (pi_range1 rfl B.range (pa_cons pe_int pa_nil)) (pg_name (i := 6) scPLaw.nd rfl (Or.inl rfl)) (pss_cons (ps_set (i := 4) scPLaw.nd rfl (Or.inl rfl) (pe_fn cSpoil hG (hr.mono (by decide)) pass0 (pa_cons (pv 1) (pa_cons (pv 4) pa_nil))))
      (pss_cons (ps_set (i := 5) scPLaw.nd rfl (Or.inl rfl) (pe_fn cOf hG (hr.mono (by decide)) pass0 (pa_cons (pv 4) pa_nil)))
      (pss_one (ps_if (PW.pt (pw_or (pt_cmpR (op_neT hu) (pv 5) (pe_callTy call_tupS (by rfl) B.tuple (by decide +kernel) (pa_cons (pe_fn cLawW hG (hr.mono (by decide)) pass0 (pa_cons (pv 4) pa_nil)) pa_nil)) (nomark _)) (pw_or1 (pt_not (pt_val (pe_fn cTold hG (hr.mono (by decide)) pass0 (pa_cons (pv 5) pa_nil))))))) (pss_one (ps_ret pe_bl)) pss_nil))))))))))
      (pss_cons (ps_set (i := 7) scPLaw.nd rfl (Or.inl rfl) (pe_join pe_str (pe_lc (own := [("sign", 8)]) (g := (gName 8)) (tt := tYes) (te := tCall (spPick K) [] E0 (tCons (tVar 1) (tCons (tOp (rCatL K) (tCB (rListT K) (tCons (tC (.str "ab_09 (),;:=!/#\n.")) tNil)) (tLst (tCons (tC (.str "not")) (tCons (tC (.str "may")) (tCons (tC (.str "if")) (tCons (tC (.str "kind")) tNil)))))) tNil))) (by rfl) scPLaw.nd (pi_range1 rfl B.range (pa_cons (pe_fn cDraw hG (hr.mono (by decide)) pass0 (pa_cons (pv 1) (pa_cons pe_int pa_nil))) pa_nil)) (blkOk_by (own := [("sign", 8)]) (N := ["script", "pen", "tree", "lap", "text", "told", "change", "row", "sign", "odd"]) (sc := defScope sPLaw) (by decide +kernel)) (fun _ _ _ _ _ => (by exact pg_name (i := 8) scPLaw.nd rfl (Or.inl rfl))) (fun _ _ _ _ _ => pts_nil) (fun _ _ _ _ _ => by exact (pe_fn cPick hG (hr.mono (by decide)) pass0 (pa_cons (pv 1) (pa_cons (pe_op op_catL (pe_callTy (call_listT rfl) (by rfl) B.list (by decide +kernel) (pa_cons pe_str pa_nil)) (pe_lst (pa_cons pe_str (pa_cons pe_str (pa_cons pe_str (pa_cons pe_str pa_nil)))))) pa_nil)))))))
      (pss_cons (ps_if (pt_cmpR (op_neT hu) (pe_fn cOf hG (hr.mono (by decide)) pass0 (pa_cons (pv 7) pa_nil)) (pe_callTy call_tupS (by rfl) B.tuple (by decide +kernel) (pa_cons (pe_fn cLawW hG (hr.mono (by decide)) pass0 (pa_cons (pv 7) pa_nil)) pa_nil)) (nomark _)) (pss_one (ps_ret pe_bl)) pss_nil)
      (pss_cons (ps_for PassesOwn.never rfl (pi_list (pe_lst (pa_cons pe_non (pa_cons pe_int (pa_cons pe_bl (pa_cons (pd_lst (pds_cons (pd_str pe_str) pds_nil)) (pa_cons (pd_tup (pds_cons (pd_str pe_str) pds_nil)) (pa_cons (pe_disp (pps_cons pe_str pe_int pps_nil) (by rfl) (by rfl) (fun z => by cases z) (by decide)) pa_nil)))))))) (pg_name (i := 9) scPLaw.nd rfl (Or.inl rfl)) (pss_one (ps_if (pt_cmpR (op_neT hu) (pe_fn cOf hG (hr.mono (by decide)) pass0 (pa_cons (pv 9) pa_nil)) (pd_tup (pds_cons (pd_tup (pds_cons (pd_str pe_str) (pds_cons (pd_str pe_str) (pds_cons (pd_int pe_int) (pds_cons (pd_int pe_int) pds_nil))))) pds_nil)) (nomark _)) (pss_one (ps_ret pe_bl)) pss_nil)))
      (pss_cons (ps_if (PW.pt (pw_or (pt_cmpR (op_neT hu) (pe_fn cOf hG (hr.mono (by decide)) pass0 (pa_cons pe_str pa_nil)) (pd_tup (pds_cons (pd_tup (pds_cons (pd_str pe_str) (pds_cons (pd_str pe_str) (pds_cons (pd_int pe_int) (pds_cons (pd_int pe_int) pds_nil))))) pds_nil)) (nomark _)) (pw_or1 (pt_cmpR (op_neT hu) (pe_fn cOf hG (hr.mono (by decide)) pass0 (pa_cons pe_str pa_nil)) (pd_tup (pds_cons (pd_tup (pds_cons (pd_str pe_str) (pds_cons (pd_str pe_str) (pds_cons (pd_int pe_int) (pds_cons (pd_int pe_int) pds_nil))))) (pds_cons (pd_tup (pds_cons (pd_str pe_str) (pds_cons (pd_str pe_str) (pds_cons (pd_int pe_int) (pds_cons (pd_int pe_int) pds_nil))))) pds_nil))) (nomark _))))) (pss_one (ps_ret pe_bl)) pss_nil)
      (pss_one (ps_ret (pe_and (pe_cmpR (op_eqT hu) (pe_fn cOf hG (hr.mono (by decide)) pass0 (pa_cons pe_str pa_nil)) (pd_tup (pds_cons (pd_tup (pds_cons (pd_str pe_str) (pds_cons (pd_str pe_str) (pds_cons (pd_int pe_int) (pds_cons (pd_int pe_int) pds_nil))))) (pds_cons (pd_tup (pds_cons (pd_str pe_str) (pds_cons (pd_str pe_str) (pds_cons (pd_int pe_int) (pds_cons (pd_int pe_int) pds_nil))))) (pds_cons (pd_tup (pds_cons (pd_str pe_str) (pds_cons (pd_str pe_str) (pds_cons (pd_int pe_int) (pds_cons (pd_int pe_int) pds_nil))))) (pds_cons (pd_tup (pds_cons (pd_str pe_str) (pds_cons (pd_str pe_str) (pds_cons (pd_int pe_int) (pds_cons (pd_int pe_int) pds_nil))))) pds_nil))))) (nomark _)) (pe_one (pe_cmpR (op_eqT hu) (pe_fn cOf hG (hr.mono (by decide)) pass0 (pa_cons pe_str pa_nil)) (pd_tup (pds_cons (pd_tup (pds_cons (pd_str pe_str) (pds_cons (pd_str pe_str) (pds_cons (pd_int pe_int) (pds_cons (pd_int pe_int) pds_nil))))) (pds_cons (pd_tup (pds_cons (pd_str pe_str) (pds_cons (pd_str pe_str) (pds_cons (pd_int pe_int) (pds_cons (pd_int pe_int) pds_nil))))) (pds_cons (pd_tup (pds_cons (pd_str pe_str) (pds_cons (pd_str pe_str) (pds_cons (pd_int pe_int) (pds_cons (pd_int pe_int) pds_nil))))) pds_nil)))) (nomark _))))))))))))), ?_⟩
    have big : 1000002 ≤ sizeLine := by decide
    have kS : PySem.W.kitOne K (.type "str") (.type "str") = some true := kit_ty (by decide +kernel)
    have toksLen : ∀ {x : Str}, Fits x → (wordsW (tl x)).length ≤ 1000001 := fun {x} hx => by
      have z := wordsW_len (tl x)
      have e := len_tl x
      unfold Fits at hx
      omega
    refine ⟨_, rfl, a, ns, rfl, hS, hlen, fun p l H1 np nl s1 hP1 => ?_⟩
    refine ⟨_, rfl, p, l, 2 ^ 39 - 400, rfl, hP1, fun qt kv tv sv b H2 sqt hK2 hT2 hV2 bok hP2 bt2 => ?_⟩
    have hb : BkV b := bk_v bok (by decide)
    have tt2 : Tp K H2 (.ref qt) b.d := .tup sqt (.cons hK2.tp (.cons hT2 (.cons hV2 .nil)))
    refine ⟨4, rfl, by decide, by decide, ?_⟩
    refine for_it (walk_range0 (n := 4)) (fun i σ' H' => ∃ (v3 v4 v5 v6 : Option V), σ' = [some (.ref a), some (.ref p), some (.ref qt), v3, v4, v5, v6, none, none, none] ∧ PenAt H' p l (1000 + 20000 * (4 - i)) ∧ Tp K H' (.ref qt) b.d) ?_ ?_ ?_ ?_
    · exact ⟨_, _, _, _, rfl, hP2.mono (by decide), tt2⟩
    · intro i σ' H' hi _
      exact True.intro
    · rintro i x0 σ' H3 H3' hi ⟨v3, v4, v5, v6, rfl, hP3, tt3⟩ ⟨rfl, rfl⟩
      refine ⟨fun σ' H' => ∃ (x : Str), σ' = [some (.ref a), some (.ref p), some (.ref qt), some (.int (i : Nat)), some (.str x), v5, v6, none, none, none] ∧ TxOk x ∧ PenAt H' p l (1000 + 20000 * (4 - (i + 1)) + 9) ∧ Tp K H' (.ref qt) b.d, ?_, ?_⟩
      · refine ⟨_, rfl, _, _, rfl, rfl, _, rfl, ite2 (fun h => ?_) (fun h => ?_)⟩
        · exact ⟨_, rfl, _, rfl, p, l, b, .ref qt, 1000 + 20000 * (4 - (i + 1)) + 9, rfl, hP3.mono (by omega), tt3, hb, fun x H4 hx hP4 bt4 => ⟨x, rfl, hx, hP4, tt3.keep (.but bt4 hP3)⟩⟩
        · exact ⟨_, rfl, b, .ref qt, rfl, tt3, hb, fun x H4 s4 hx => ⟨x, rfl, hx, (hP3.same s4).mono (by omega), tt3.same s4⟩⟩
      rintro σ4 H4 ⟨x, rfl, hx, hP4, tt4⟩
      have fx : Fits x := by
        have := hx.len
        unfold Fits
        omega
      have shx := toksD_sh hx.asc
      refine ⟨_, rfl, .str x, .type "str", true, rfl, .base (.str x), kS, fun _ => ⟨x, rfl, fx, fun z0 H5 s5 t5 => ?_⟩, fun z => nomatch z⟩
      refine ⟨_, rfl, _, rfl, x, rfl, fx, fun q6 H6 n6 s6 l6 => ⟨_, _, rfl, l6.sq, fun z7 H7 s7 t7 => ⟨toksD x, toksD x, (t5.same s6).same s7, t7, shx, shx, _, rfl, ite2 (fun h => (not_of h (self_eqv shx)).elim) (fun _ => ?_)⟩⟩⟩
      have t57 := (t5.same s6).same s7
      refine ⟨_, rfl, z0, wordsW (tl x), rfl, t57, toksLen fx, fun H8 s8 => ⟨_, rfl, ite2 (fun z => Bool.noConfusion (show false = true from z)) (fun _ => ?_)⟩⟩
      have ew : ((wordsW (tl x)).map tokD).getLast? = some (tokD (endTok (linesOf (tl x)))) := by
        unfold wordsW
        rw [if_neg (by rw [okT_end hx.ok]; exact Bool.false_ne_true), List.map_append]
        exact List.getLast?_concat
      refine ⟨_, rfl, _, rfl, _, -1, tokD (endTok (linesOf (tl x))), .inr (t57.same s8), rfl, atI_last ew, fun y ty => ⟨_, 0, .str "end", .inr (show Tp K H8 y (.tuple [.str "end", .str "", .int _, .int _]) from ty), rfl, atI0, fun y2 t2 => ?_⟩⟩
      have ey := t2.str_inv
      subst ey
      refine ⟨rfl, _, rfl, ite2 (fun h => (not_of h (decide_eq_true rfl)).elim) (fun _ => ?_)⟩
      have s48 := ((s5.trans s6).trans s7).trans s8
      refine ⟨3, rfl, by decide, by decide, ?_⟩
      refine for_it (walk_range0 (n := 3)) (fun j σ' H' => ∃ (x : Str) (w5 w6 : Option V), σ' = [some (.ref a), some (.ref p), some (.ref qt), some (.int (i : Nat)), some (.str x), w5, w6, none, none, none] ∧ Asc x ∧ x.length ≤ 100000 + 13 * j ∧ PenAt H' p l (1000 + 20000 * (4 - (i + 1)) + 3 * (3 - j)) ∧ Tp K H' (.ref qt) b.d) ?_ ?_ ?_ ?_
      · exact ⟨x, _, _, rfl, hx.asc, hx.len, hP4.same s48, tt4.same s48⟩
      · intro j σ' H' hj _
        exact True.intro
      · rintro j x1 σ' H9 H9' hj ⟨x, w5, w6, rfl, ha, hl, hP9, tt9⟩ ⟨rfl, rfl⟩
        refine ⟨_, rfl, _, rfl, p, l, x, 1000 + 20000 * (4 - (i + 1)) + 3 * (3 - (j + 1)), rfl, hP9.mono (by omega), by omega, ha, fun y H10 hyl hya hP10 bt10 => ?_⟩
        have fy : Fits y := by
          unfold Fits
          omega
        have shy := toksD_sh hya
        refine ⟨_, rfl, .str y, .type "str", true, rfl, .base (.str y), kS, fun _ => ⟨y, rfl, fy, fun z0 H5 s5 t5 => ?_⟩, fun z => nomatch z⟩
        refine ⟨_, rfl, _, rfl, y, rfl, fy, fun q6 H6 n6 s6 l6 => ⟨_, _, rfl, l6.sq, fun z7 H7 s7 t7 => ⟨toksD y, toksD y, (t5.same s6).same s7, t7, shy, shy, _, rfl, ite2 (fun h => (not_of h (self_eqv shy)).elim) (fun _ => ?_)⟩⟩⟩
        have t57 := (t5.same s6).same s7
        refine ⟨_, rfl, z0, wordsW (tl y), rfl, t57, toksLen fy, fun H8 s8 => ⟨_, rfl, ite2 (fun z => Bool.noConfusion (show false = true from z)) (fun _ => ?_)⟩⟩
        have s48 := ((s5.trans s6).trans s7).trans s8
        exact ⟨y, _, _, rfl, hya, by omega, hP10.same s48, (tt9.keep (.but bt10 hP9)).same s48⟩
      rintro σ' H9 ⟨x, w5, w6, rfl, ha, hl, hP9, tt9⟩
      exact ⟨_, _, _, _, rfl, hP9.mono (by omega), tt9⟩
    rintro σ' H3 ⟨v3, v4, v5, v6, rfl, hP3, _⟩
    refine ⟨⟨_, rfl⟩, _, rfl, p, l, 30, 900, rfl, hP3.mono (by omega), by decide, by decide, fun r H4 r0 r1 hP4 bt4 => ?_⟩
    obtain ⟨k, rfl⟩ : ∃ k : Nat, r = (k : Int) := ⟨r.toNat, by omega⟩
    have hk : k < 30 := by omega
    refine ⟨_, rfl, by omega, by omega, fun D hD => ?_⟩
    have nD := hP4.ne hD
    refine lc_it (walk_range0 (n := k)) (LcN K D fun i ds H' => ∃ ys : List Str, ds = ys.map .str ∧ ys.length = i ∧ i ≤ k ∧ (∀ y ∈ ys, y ∈ rowL) ∧ PenAt H' p l (800 + (k - i)) ∧ Ext [p] H4 H') ?_ ?_ ?_ ?_
    · have sD := Same.new (o := .lst []) hD
      exact lc_start ⟨[], rfl, rfl, Nat.zero_le _, (fun y hy => nomatch hy), (hP4.same sD).mono (by omega), .of sD⟩
    · intro i H' hi _
      exact True.intro
    · rintro i x H5 H5' hi ⟨ds, ⟨ys, rfl, ly, hik, hy, hP5, x5⟩, lD⟩ ⟨rfl, rfl⟩
      refine ⟨rfl, ?_⟩
      unfold tYes
      refine if_t ?_
      refine ⟨_, rfl, "ab_09 (),;:=!/#\n.", rfl, by decide +kernel, fun q1 H6 n1 s1 l1 => ⟨by show 4 ≤ sizeLine; omega, fun q2 n2 => ?_⟩⟩
      have s2 := Same.new (o := .lst (fourK.map V.str)) n2
      refine ⟨q1, q2, _, _, rfl, rfl, l1.same s2, lsS fourK, by decide +kernel, fun q3 H7 n3 s3 l3 => ?_⟩
      have s57 := (s1.trans s2).trans s3
      rw [← List.map_append] at l3
      have l3 : LsAt K H7 q3 (rowL.map .str) := l3
      refine ⟨p, l, .ref q3, rowL.map .str, 800 + (k - (i + 1)), rfl, (hP5.same s57).mono (by omega), l3.sq, (fun z => row_ne (List.map_eq_nil_iff.mp z)), by rw [List.length_map]; exact row_len, fun v d H8 hd tvd hP8 bt8 => ?_⟩
      obtain ⟨y, hyr, rfl⟩ := mem_map_str hd
      have lD8 := (lD.same s57).ext (Ext.but bt8) (.pen (hP5.same s57) .nil) (by simpa using nD.1)
      refine lc_put tvd lD8 (fun H9 x9 n9 => ⟨ys ++ [y], by rw [List.map_append]; rfl, by rw [List.length_append, ly]; rfl, hi, fun w hw => ?_, hP8.ext x9 (by simpa using nD.1.symm) (by simpa using nD.2.symm), ((x5.trans (.of s57)).trans (Ext.but bt8)).drop x9 hD⟩) (by rw [List.length_map, ly]; omega)
      rcases List.mem_append.mp hw with hw | hw
      · exact hy w hw
      · rw [List.mem_singleton.mp hw]
        exact hyr
    rintro H5 ⟨ds, ⟨ys, rfl, ly, _, hy, _, _⟩, lD⟩
    obtain ⟨xs, e, t⟩ := lD
    have ex := TpAll.strs t
    subst ex
    obtain ⟨j1, j2, j3⟩ := row_join hy
    refine ⟨"", D, ys, rfl, rfl, .inl (SqL.of e), by show _ + _ * 0 ≤ _; omega, ?_⟩
    have et : tl (Txt.join "" ys) = joinL (tl "") (ys.map tl) := by rw [join_eq, tl_join]
    generalize hrow : Txt.join "" ys = x at et
    have hya : Asc x := fun c hc => j2 c (by rw [← et]; exact hc)
    have fx : Fits x := by
      unfold Fits
      rw [len_tl, et]
      omega
    have shx := toksD_sh hya
    refine ⟨_, rfl, .str x, .type "str", true, rfl, .base (.str x), kS, fun _ => ⟨x, rfl, fx, fun z0 H6 s6 t6 => ?_⟩, fun z => nomatch z⟩
    refine ⟨_, rfl, x, rfl, fx, fun q7 H7 n7 s7 l7 => ⟨_, _, rfl, l7.sq, fun z8 H8 s8 t8 => ⟨toksD x, toksD x, (t6.same s7).same s8, t8, shx, shx, _, rfl, ite2 (fun h => (not_of h (self_eqv shx)).elim) (fun _ => ?_)⟩⟩⟩
    refine ⟨[], _, .nil, rfl, by show 1 ≤ sizeLine; omega, fun qa Ha na sa la => ⟨[], _, .nil, rfl, fun zt Ht st tzt => ?_⟩⟩
    intro pd npd
    refine ⟨upd_same, [(.inr "a", .int 1)], rfl, (by show 1 ≤ 15; decide), ?_⟩
    have sd : Same Ht (upd (upd Ht pd (.dK [])) pd (.dK (mergeK [] [(.inr "a", V.int 1)]))) := by
      rw [upd_upd]
      exact Same.new npd
    have edk : (upd (upd Ht pd (.dK [])) pd (.dK (mergeK [] [(.inr "a", V.int 1)]))) pd = some (.dK (mergeK [] [(.inr "a", V.int 1)])) := upd_same
    generalize upd (upd Ht pd (.dK [])) pd (.dK (mergeK [] [(.inr "a", V.int 1)])) = Hd at sd edk
    refine ⟨by show 6 ≤ sizeLine; omega, fun q nq => ⟨q, rfl, ⟨_, SqL.of upd_same⟩, ?_⟩⟩
    have sz := Same.new (o := .lst [V.non, .int 5, .bl true, .ref qa, zt, .ref pd]) nq
    have eq0 : (upd Hd q (.lst [V.non, .int 5, .bl true, .ref qa, zt, .ref pd])) q = some (.lst [V.non, .int 5, .bl true, .ref qa, zt, .ref pd]) := upd_same
    generalize upd Hd q (.lst [V.non, .int 5, .bl true, .ref qa, zt, .ref pd]) = Hz at sz eq0
    have odd : ∀ v ∈ [V.non, .int 5, .bl true, .ref qa, zt, .ref pd], ∀ {H' : Hp}, Same Hz H' → ∃ t, TyX K H' v t ∧ PySem.W.kitOne K t (.type "str") = some false := by
      intro v hv H' s'
      have sall := (sd.trans sz).trans s'
      rcases List.mem_cons.mp hv with rfl | hv
      · exact ⟨_, .base .non, kit_ty (by decide +kernel)⟩
      rcases List.mem_cons.mp hv with rfl | hv
      · exact ⟨_, .base (.int _), kit_ty (by decide +kernel)⟩
      rcases List.mem_cons.mp hv with rfl | hv
      · exact ⟨_, .base (.bl _), kit_ty (by decide +kernel)⟩
      rcases List.mem_cons.mp hv with rfl | hv
      · obtain ⟨ys, e, _⟩ := la
        exact ⟨_, .base (.lst (sall _ _ (st _ _ e))), kit_ty (by decide +kernel)⟩
      rcases List.mem_cons.mp hv with rfl | hv
      · exact ⟨_, (tzt.same sall).tyx, kit_ty (by decide +kernel)⟩
      · rw [List.mem_singleton.mp hv]
        exact ⟨_, .base (.dK ((sz.trans s') _ _ edk)), kit_ty (by decide +kernel)⟩
    have shb : SeqAt.shaped badText = true := by decide +kernel
    refine for_list (K := K) (a := q) (xs := [V.non, .int 5, .bl true, .ref qa, zt, .ref pd]) (fun i σ' H' => ∃ w9 : Option V, σ' = [some (.ref a), some (.ref p), some (.ref qt), v3, v4, v5, v6, some (.str x), none, w9] ∧ Same Hz H') ?_ ?_ ?_ ?_
    · exact ⟨_, rfl, Same.refl _⟩
    · rintro i σ' H' hi ⟨w9, rfl, s'⟩
      exact SqL.of (s' _ _ eq0)
    · rintro i v σ' H' hi ⟨w9, rfl, s'⟩
      obtain ⟨t, ty, kt⟩ := odd v (List.mem_of_getElem? hi) s'
      refine ⟨_, rfl, v, t, false, rfl, ty, kt, (fun z => nomatch z), fun _ z1 H1 s1 t1 => ⟨[], _, .nil, rfl, fun z2 H2 s2 t2 => ⟨badText, badText, t1.same s2, t2, shb, shb, _, rfl, ite2 (fun h => (not_of h (self_eqv shb)).elim) (fun _ => ?_)⟩⟩⟩
      exact ⟨_, rfl, (s'.trans s1).trans s2⟩
    rintro σ' H' ⟨w9, rfl, s'⟩
    have e1 : toksD "" = .tuple [.tuple [.str "end", .str "", .int 0, .int 0]] := by
      unfold toksD
      rw [w_1]
      rfl
    have e2 : toksD "a\n # b" = .tuple [.tuple [.str "name", .str "a", .int 0, .int 0], .tuple [.str "end", .str "", .int 1, .int 4]] := by
      unfold toksD
      rw [w_2]
      rfl
    have e3 : toksD "x!=0" = .tuple [.tuple [.str "name", .str "x", .int 0, .int 0], .tuple [.str "sign", .str "!=", .int 0, .int 1], .tuple [.str "number", .str "0", .int 0, .int 3], .tuple [.str "end", .str "", .int 0, .int 4]] := by
      unfold toksD
      rw [w_3]
      rfl
    have e4 : toksD "a b\t" = .tuple [.tuple [.str "name", .str "a", .int 0, .int 0], .tuple [.str "name", .str "b", .int 0, .int 2], .tuple [.str "bad", .str "sign", .int 0, .int 3]] := by
      unfold toksD
      rw [w_4]
      rfl
    have h1 := toksD_sh lit_asc.1
    have h2 := toksD_sh lit_asc.2.1
    have h3 := toksD_sh lit_asc.2.2.1
    have h4 := toksD_sh lit_asc.2.2.2
    refine ⟨.str "", .type "str", true, rfl, .base (.str _), kS, (fun _ => ⟨"", rfl, lit_fit.1, fun z1 H1 s1 t1 => ⟨[], _, .nil, rfl, fun z2 H2 s2 t2 => ⟨toksD "", toksD "", t1.same s2, by rw [e1]; exact t2, h1, h1, _, rfl, ite2 (fun h => (not_of h (self_eqv h1)).elim) (fun _ => ?_)⟩⟩⟩), fun z => nomatch z⟩
    refine ⟨.str "a\n # b", .type "str", true, rfl, .base (.str _), kS, (fun _ => ⟨"a\n # b", rfl, lit_fit.2.1, fun z1 H1 s1 t1 => ⟨[], _, .nil, rfl, fun z2 H2 s2 t2 => ⟨toksD "a\n # b", toksD "a\n # b", t1.same s2, by rw [e2]; exact t2, h2, h2, _, rfl, ite2 (fun h => (not_of h (self_eqv h2)).elim) (fun _ => ?_)⟩⟩⟩), fun z => nomatch z⟩
    refine ⟨.str "x!=0", .type "str", true, rfl, .base (.str _), kS, (fun _ => ⟨"x!=0", rfl, lit_fit.2.2.1, fun z1 H1 s1 t1 => ⟨[], _, .nil, rfl, fun z2 H2 s2 t2 => ⟨toksD "x!=0", toksD "x!=0", t1.same s2, by rw [e3]; exact t2, h3, h3, _, rfl, ite2 (fun _ => ?_) (fun h => absurd (self_eqv h3) h)⟩⟩⟩), fun z => nomatch z⟩
    refine ⟨.str "a b\t", .type "str", true, rfl, .base (.str _), kS, (fun _ => ⟨"a b\t", rfl, lit_fit.2.2.2, fun z1 H1 s1 t1 => ⟨[], _, .nil, rfl, fun z2 H2 s2 t2 => ⟨toksD "a b\t", toksD "a b\t", t1.same s2, by rw [e4]; exact t2, h4, h4, ?_⟩⟩⟩), fun z => nomatch z⟩
    rw [self_eqv h4]
    exact fin _
end

end Og

set_option Elab.async false
set_option linter.all false
set_option maxRecDepth 100000
set_option maxHeartbeats 16000000
namespace Og
open PySem L2
theorem all_mk {P : Program} {w : World} {K : PySem.W.Frag} {h : Heap} {mg : Str → Option Value} {fa : Addr} (X : K.In h) (Gn : h.Ns mainGlobals mg) (hfa : mg "law" = some (.ref fa))
    {f_0 : Addr} {od_0 an_0 : Option Addr} {sl_0 : Array (Option Value)} {oc_0 kV_0 dc_0 pm_0 cd_0 ct_0 : Value}
    (a_0 : PySem.W.nsIn K mainGlobals "_law_pen" = some (some (.ref f_0)))
    (l_0 : K.lookup f_0 = some ⟨oc_0, od_0, .func (PySem.W.fnOf "_law_pen" "_law_pen" (defArgs sPen) (defBody sPen) (defScope sPen) .none kV_0 dc_0 pm_0 an_0 cd_0 ct_0), sl_0⟩)
    (c_0 : PySem.W.codeIn K cd_0 "_law_pen" = true)
    (k_0 : PySem.W.keepIn K (.ref f_0) = true)
    {f_1 : Addr} {od_1 an_1 : Option Addr} {sl_1 : Array (Option Value)} {oc_1 kV_1 dc_1 pm_1 cd_1 ct_1 : Value}
    (a_1 : PySem.W.nsIn K mainGlobals "_law_draw" = some (some (.ref f_1)))
    (l_1 : K.lookup f_1 = some ⟨oc_1, od_1, .func (PySem.W.fnOf "_law_draw" "_law_draw" (defArgs sDraw) (defBody sDraw) (defScope sDraw) .none kV_1 dc_1 pm_1 an_1 cd_1 ct_1), sl_1⟩)
    (c_1 : PySem.W.codeIn K cd_1 "_law_draw" = true)
    (k_1 : PySem.W.keepIn K (.ref f_1) = true)
    {f_2 : Addr} {od_2 an_2 : Option Addr} {sl_2 : Array (Option Value)} {oc_2 kV_2 dc_2 pm_2 cd_2 ct_2 : Value}
    (a_2 : PySem.W.nsIn K mainGlobals "_law_pick" = some (some (.ref f_2)))
    (l_2 : K.lookup f_2 = some ⟨oc_2, od_2, .func (PySem.W.fnOf "_law_pick" "_law_pick" (defArgs sPick) (defBody sPick) (defScope sPick) .none kV_2 dc_2 pm_2 an_2 cd_2 ct_2), sl_2⟩)
    (c_2 : PySem.W.codeIn K cd_2 "_law_pick" = true)
    (k_2 : PySem.W.keepIn K (.ref f_2) = true)
    {f_3 : Addr} {od_3 an_3 : Option Addr} {sl_3 : Array (Option Value)} {oc_3 kV_3 dc_3 pm_3 cd_3 ct_3 : Value}
    (a_3 : PySem.W.nsIn K mainGlobals "_law_shuffled" = some (some (.ref f_3)))
    (l_3 : K.lookup f_3 = some ⟨oc_3, od_3, .func (PySem.W.fnOf "_law_shuffled" "_law_shuffled" (defArgs sShuffled) (defBody sShuffled) (defScope sShuffled) .none kV_3 dc_3 pm_3 an_3 cd_3 ct_3), sl_3⟩)
    (c_3 : PySem.W.codeIn K cd_3 "_law_shuffled" = true)
    (k_3 : PySem.W.keepIn K (.ref f_3) = true)
    {f_4 : Addr} {od_4 an_4 : Option Addr} {sl_4 : Array (Option Value)} {oc_4 kV_4 dc_4 pm_4 cd_4 ct_4 : Value}
    (a_4 : PySem.W.nsIn K mainGlobals "_law_book_term" = some (some (.ref f_4)))
    (l_4 : K.lookup f_4 = some ⟨oc_4, od_4, .func (PySem.W.fnOf "_law_book_term" "_law_book_term" (defArgs sBookTerm) (defBody sBookTerm) (defScope sBookTerm) .none kV_4 dc_4 pm_4 an_4 cd_4 ct_4), sl_4⟩)
    (c_4 : PySem.W.codeIn K cd_4 "_law_book_term" = true)
    (k_4 : PySem.W.keepIn K (.ref f_4) = true)
    {f_5 : Addr} {od_5 an_5 : Option Addr} {sl_5 : Array (Option Value)} {oc_5 kV_5 dc_5 pm_5 cd_5 ct_5 : Value}
    (a_5 : PySem.W.nsIn K mainGlobals "_law_book_atom" = some (some (.ref f_5)))
    (l_5 : K.lookup f_5 = some ⟨oc_5, od_5, .func (PySem.W.fnOf "_law_book_atom" "_law_book_atom" (defArgs sBookAtom) (defBody sBookAtom) (defScope sBookAtom) .none kV_5 dc_5 pm_5 an_5 cd_5 ct_5), sl_5⟩)
    (c_5 : PySem.W.codeIn K cd_5 "_law_book_atom" = true)
    (k_5 : PySem.W.keepIn K (.ref f_5) = true)
    {f_6 : Addr} {od_6 an_6 : Option Addr} {sl_6 : Array (Option Value)} {oc_6 kV_6 dc_6 pm_6 cd_6 ct_6 : Value}
    (a_6 : PySem.W.nsIn K mainGlobals "_law_book_sides" = some (some (.ref f_6)))
    (l_6 : K.lookup f_6 = some ⟨oc_6, od_6, .func (PySem.W.fnOf "_law_book_sides" "_law_book_sides" (defArgs sBookSides) (defBody sBookSides) (defScope sBookSides) .none kV_6 dc_6 pm_6 an_6 cd_6 ct_6), sl_6⟩)
    (c_6 : PySem.W.codeIn K cd_6 "_law_book_sides" = true)
    (k_6 : PySem.W.keepIn K (.ref f_6) = true)
    {f_7 : Addr} {od_7 an_7 : Option Addr} {sl_7 : Array (Option Value)} {oc_7 kV_7 dc_7 pm_7 cd_7 ct_7 : Value}
    (a_7 : PySem.W.nsIn K mainGlobals "_law_book_form" = some (some (.ref f_7)))
    (l_7 : K.lookup f_7 = some ⟨oc_7, od_7, .func (PySem.W.fnOf "_law_book_form" "_law_book_form" (defArgs sBookForm) (defBody sBookForm) (defScope sBookForm) .none kV_7 dc_7 pm_7 an_7 cd_7 ct_7), sl_7⟩)
    (c_7 : PySem.W.codeIn K cd_7 "_law_book_form" = true)
    (k_7 : PySem.W.keepIn K (.ref f_7) = true)
    {f_8 : Addr} {od_8 an_8 : Option Addr} {sl_8 : Array (Option Value)} {oc_8 kV_8 dc_8 pm_8 cd_8 ct_8 : Value}
    (a_8 : PySem.W.nsIn K mainGlobals "_law_book_planted" = some (some (.ref f_8)))
    (l_8 : K.lookup f_8 = some ⟨oc_8, od_8, .func (PySem.W.fnOf "_law_book_planted" "_law_book_planted" (defArgs sBookPlanted) (defBody sBookPlanted) (defScope sBookPlanted) .none kV_8 dc_8 pm_8 an_8 cd_8 ct_8), sl_8⟩)
    (c_8 : PySem.W.codeIn K cd_8 "_law_book_planted" = true)
    (k_8 : PySem.W.keepIn K (.ref f_8) = true)
    {f_9 : Addr} {od_9 an_9 : Option Addr} {sl_9 : Array (Option Value)} {oc_9 kV_9 dc_9 pm_9 cd_9 ct_9 : Value}
    (a_9 : PySem.W.nsIn K mainGlobals "_law_book_says" = some (some (.ref f_9)))
    (l_9 : K.lookup f_9 = some ⟨oc_9, od_9, .func (PySem.W.fnOf "_law_book_says" "_law_book_says" (defArgs sBookSays) (defBody sBookSays) (defScope sBookSays) .none kV_9 dc_9 pm_9 an_9 cd_9 ct_9), sl_9⟩)
    (c_9 : PySem.W.codeIn K cd_9 "_law_book_says" = true)
    (k_9 : PySem.W.keepIn K (.ref f_9) = true)
    {f_10 : Addr} {od_10 an_10 : Option Addr} {sl_10 : Array (Option Value)} {oc_10 kV_10 dc_10 pm_10 cd_10 ct_10 : Value}
    (a_10 : PySem.W.nsIn K mainGlobals "_law_book_head" = some (some (.ref f_10)))
    (l_10 : K.lookup f_10 = some ⟨oc_10, od_10, .func (PySem.W.fnOf "_law_book_head" "_law_book_head" (defArgs sBookHead) (defBody sBookHead) (defScope sBookHead) .none kV_10 dc_10 pm_10 an_10 cd_10 ct_10), sl_10⟩)
    (c_10 : PySem.W.codeIn K cd_10 "_law_book_head" = true)
    (k_10 : PySem.W.keepIn K (.ref f_10) = true)
    {f_11 : Addr} {od_11 an_11 : Option Addr} {sl_11 : Array (Option Value)} {oc_11 kV_11 dc_11 pm_11 cd_11 ct_11 : Value}
    (a_11 : PySem.W.nsIn K mainGlobals "_law_book_wide" = some (some (.ref f_11)))
    (l_11 : K.lookup f_11 = some ⟨oc_11, od_11, .func (PySem.W.fnOf "_law_book_wide" "_law_book_wide" (defArgs sBookWide) (defBody sBookWide) (defScope sBookWide) .none kV_11 dc_11 pm_11 an_11 cd_11 ct_11), sl_11⟩)
    (c_11 : PySem.W.codeIn K cd_11 "_law_book_wide" = true)
    (k_11 : PySem.W.keepIn K (.ref f_11) = true)
    {f_12 : Addr} {od_12 an_12 : Option Addr} {sl_12 : Array (Option Value)} {oc_12 kV_12 dc_12 pm_12 cd_12 ct_12 : Value}
    (a_12 : PySem.W.nsIn K mainGlobals "_law_book" = some (some (.ref f_12)))
    (l_12 : K.lookup f_12 = some ⟨oc_12, od_12, .func (PySem.W.fnOf "_law_book" "_law_book" (defArgs sBook) (defBody sBook) (defScope sBook) .none kV_12 dc_12 pm_12 an_12 cd_12 ct_12), sl_12⟩)
    (c_12 : PySem.W.codeIn K cd_12 "_law_book" = true)
    (k_12 : PySem.W.keepIn K (.ref f_12) = true)
    {f_13 : Addr} {od_13 an_13 : Option Addr} {sl_13 : Array (Option Value)} {oc_13 kV_13 dc_13 pm_13 cd_13 ct_13 : Value}
    (a_13 : PySem.W.nsIn K mainGlobals "row_end" = some (some (.ref f_13)))
    (l_13 : K.lookup f_13 = some ⟨oc_13, od_13, .func (PySem.W.fnOf "row_end" "row_end" (defArgs sPRowEnd) (defBody sPRowEnd) (defScope sPRowEnd) .none kV_13 dc_13 pm_13 an_13 cd_13 ct_13), sl_13⟩)
    (c_13 : PySem.W.codeIn K cd_13 "row_end" = true)
    (k_13 : PySem.W.keepIn K (.ref f_13) = true)
    {f_14 : Addr} {od_14 an_14 : Option Addr} {sl_14 : Array (Option Value)} {oc_14 kV_14 dc_14 pm_14 cd_14 ct_14 : Value}
    (a_14 : PySem.W.nsIn K mainGlobals "letter_word" = some (some (.ref f_14)))
    (l_14 : K.lookup f_14 = some ⟨oc_14, od_14, .func (PySem.W.fnOf "letter_word" "letter_word" (defArgs sPLetterWord) (defBody sPLetterWord) (defScope sPLetterWord) .none kV_14 dc_14 pm_14 an_14 cd_14 ct_14), sl_14⟩)
    (c_14 : PySem.W.codeIn K cd_14 "letter_word" = true)
    (k_14 : PySem.W.keepIn K (.ref f_14) = true)
    {f_15 : Addr} {od_15 an_15 : Option Addr} {sl_15 : Array (Option Value)} {oc_15 kV_15 dc_15 pm_15 cd_15 ct_15 : Value}
    (a_15 : PySem.W.nsIn K mainGlobals "figure_word" = some (some (.ref f_15)))
    (l_15 : K.lookup f_15 = some ⟨oc_15, od_15, .func (PySem.W.fnOf "figure_word" "figure_word" (defArgs sPFigureWord) (defBody sPFigureWord) (defScope sPFigureWord) .none kV_15 dc_15 pm_15 an_15 cd_15 ct_15), sl_15⟩)
    (c_15 : PySem.W.codeIn K cd_15 "figure_word" = true)
    (k_15 : PySem.W.keepIn K (.ref f_15) = true)
    {f_16 : Addr} {od_16 an_16 : Option Addr} {sl_16 : Array (Option Value)} {oc_16 kV_16 dc_16 pm_16 cd_16 ct_16 : Value}
    (a_16 : PySem.W.nsIn K mainGlobals "word_from" = some (some (.ref f_16)))
    (l_16 : K.lookup f_16 = some ⟨oc_16, od_16, .func (PySem.W.fnOf "word_from" "word_from" (defArgs sPWordFrom) (defBody sPWordFrom) (defScope sPWordFrom) .none kV_16 dc_16 pm_16 an_16 cd_16 ct_16), sl_16⟩)
    (c_16 : PySem.W.codeIn K cd_16 "word_from" = true)
    (k_16 : PySem.W.keepIn K (.ref f_16) = true)
    {f_17 : Addr} {od_17 an_17 : Option Addr} {sl_17 : Array (Option Value)} {oc_17 kV_17 dc_17 pm_17 cd_17 ct_17 : Value}
    (a_17 : PySem.W.nsIn K mainGlobals "words_in" = some (some (.ref f_17)))
    (l_17 : K.lookup f_17 = some ⟨oc_17, od_17, .func (PySem.W.fnOf "words_in" "words_in" (defArgs sPWordsIn) (defBody sPWordsIn) (defScope sPWordsIn) .none kV_17 dc_17 pm_17 an_17 cd_17 ct_17), sl_17⟩)
    (c_17 : PySem.W.codeIn K cd_17 "words_in" = true)
    (k_17 : PySem.W.keepIn K (.ref f_17) = true)
    {f_18 : Addr} {od_18 an_18 : Option Addr} {sl_18 : Array (Option Value)} {oc_18 kV_18 dc_18 pm_18 cd_18 ct_18 : Value}
    (a_18 : PySem.W.nsIn K mainGlobals "words_of" = some (some (.ref f_18)))
    (l_18 : K.lookup f_18 = some ⟨oc_18, od_18, .func (PySem.W.fnOf "words_of" "words_of" (defArgs sPWordsOf) (defBody sPWordsOf) (defScope sPWordsOf) .none kV_18 dc_18 pm_18 an_18 cd_18 ct_18), sl_18⟩)
    (c_18 : PySem.W.codeIn K cd_18 "words_of" = true)
    (k_18 : PySem.W.keepIn K (.ref f_18) = true)
    {f_19 : Addr} {od_19 an_19 : Option Addr} {sl_19 : Array (Option Value)} {oc_19 kV_19 dc_19 pm_19 cd_19 ct_19 : Value}
    (a_19 : PySem.W.nsIn K mainGlobals "_law_row_of" = some (some (.ref f_19)))
    (l_19 : K.lookup f_19 = some ⟨oc_19, od_19, .func (PySem.W.fnOf "_law_row_of" "_law_row_of" (defArgs sRowOf) (defBody sRowOf) (defScope sRowOf) .none kV_19 dc_19 pm_19 an_19 cd_19 ct_19), sl_19⟩)
    (c_19 : PySem.W.codeIn K cd_19 "_law_row_of" = true)
    (k_19 : PySem.W.keepIn K (.ref f_19) = true)
    {f_20 : Addr} {od_20 an_20 : Option Addr} {sl_20 : Array (Option Value)} {oc_20 kV_20 dc_20 pm_20 cd_20 ct_20 : Value}
    (a_20 : PySem.W.nsIn K mainGlobals "_law_words" = some (some (.ref f_20)))
    (l_20 : K.lookup f_20 = some ⟨oc_20, od_20, .func (PySem.W.fnOf "_law_words" "_law_words" (defArgs sWords) (defBody sWords) (defScope sWords) .none kV_20 dc_20 pm_20 an_20 cd_20 ct_20), sl_20⟩)
    (c_20 : PySem.W.codeIn K cd_20 "_law_words" = true)
    (k_20 : PySem.W.keepIn K (.ref f_20) = true)
    {f_21 : Addr} {od_21 an_21 : Option Addr} {sl_21 : Array (Option Value)} {oc_21 kV_21 dc_21 pm_21 cd_21 ct_21 : Value}
    (a_21 : PySem.W.nsIn K mainGlobals "_law_atom_words" = some (some (.ref f_21)))
    (l_21 : K.lookup f_21 = some ⟨oc_21, od_21, .func (PySem.W.fnOf "_law_atom_words" "_law_atom_words" (defArgs sAtomWords) (defBody sAtomWords) (defScope sAtomWords) .none kV_21 dc_21 pm_21 an_21 cd_21 ct_21), sl_21⟩)
    (c_21 : PySem.W.codeIn K cd_21 "_law_atom_words" = true)
    (k_21 : PySem.W.keepIn K (.ref f_21) = true)
    {f_22 : Addr} {od_22 an_22 : Option Addr} {sl_22 : Array (Option Value)} {oc_22 kV_22 dc_22 pm_22 cd_22 ct_22 : Value}
    (a_22 : PySem.W.nsIn K mainGlobals "_law_row_words" = some (some (.ref f_22)))
    (l_22 : K.lookup f_22 = some ⟨oc_22, od_22, .func (PySem.W.fnOf "_law_row_words" "_law_row_words" (defArgs sRowWords) (defBody sRowWords) (defScope sRowWords) .none kV_22 dc_22 pm_22 an_22 cd_22 ct_22), sl_22⟩)
    (c_22 : PySem.W.codeIn K cd_22 "_law_row_words" = true)
    (k_22 : PySem.W.keepIn K (.ref f_22) = true)
    {f_23 : Addr} {od_23 an_23 : Option Addr} {sl_23 : Array (Option Value)} {oc_23 kV_23 dc_23 pm_23 cd_23 ct_23 : Value}
    (a_23 : PySem.W.nsIn K mainGlobals "_law_part_words" = some (some (.ref f_23)))
    (l_23 : K.lookup f_23 = some ⟨oc_23, od_23, .func (PySem.W.fnOf "_law_part_words" "_law_part_words" (defArgs sPartWords) (defBody sPartWords) (defScope sPartWords) .none kV_23 dc_23 pm_23 an_23 cd_23 ct_23), sl_23⟩)
    (c_23 : PySem.W.codeIn K cd_23 "_law_part_words" = true)
    (k_23 : PySem.W.keepIn K (.ref f_23) = true)
    {f_24 : Addr} {od_24 an_24 : Option Addr} {sl_24 : Array (Option Value)} {oc_24 kV_24 dc_24 pm_24 cd_24 ct_24 : Value}
    (a_24 : PySem.W.nsIn K mainGlobals "_law_form_words" = some (some (.ref f_24)))
    (l_24 : K.lookup f_24 = some ⟨oc_24, od_24, .func (PySem.W.fnOf "_law_form_words" "_law_form_words" (defArgs sFormWords) (defBody sFormWords) (defScope sFormWords) .none kV_24 dc_24 pm_24 an_24 cd_24 ct_24), sl_24⟩)
    (c_24 : PySem.W.codeIn K cd_24 "_law_form_words" = true)
    (k_24 : PySem.W.keepIn K (.ref f_24) = true)
    {f_25 : Addr} {od_25 an_25 : Option Addr} {sl_25 : Array (Option Value)} {oc_25 kV_25 dc_25 pm_25 cd_25 ct_25 : Value}
    (a_25 : PySem.W.nsIn K mainGlobals "_law_tree_words" = some (some (.ref f_25)))
    (l_25 : K.lookup f_25 = some ⟨oc_25, od_25, .func (PySem.W.fnOf "_law_tree_words" "_law_tree_words" (defArgs sTreeWords) (defBody sTreeWords) (defScope sTreeWords) .none kV_25 dc_25 pm_25 an_25 cd_25 ct_25), sl_25⟩)
    (c_25 : PySem.W.codeIn K cd_25 "_law_tree_words" = true)
    (k_25 : PySem.W.keepIn K (.ref f_25) = true)
    {f_26 : Addr} {od_26 an_26 : Option Addr} {sl_26 : Array (Option Value)} {oc_26 kV_26 dc_26 pm_26 cd_26 ct_26 : Value}
    (a_26 : PySem.W.nsIn K mainGlobals "_law_text_of" = some (some (.ref f_26)))
    (l_26 : K.lookup f_26 = some ⟨oc_26, od_26, .func (PySem.W.fnOf "_law_text_of" "_law_text_of" (defArgs sTextOf) (defBody sTextOf) (defScope sTextOf) .none kV_26 dc_26 pm_26 an_26 cd_26 ct_26), sl_26⟩)
    (c_26 : PySem.W.codeIn K cd_26 "_law_text_of" = true)
    (k_26 : PySem.W.keepIn K (.ref f_26) = true)
    {f_27 : Addr} {od_27 an_27 : Option Addr} {sl_27 : Array (Option Value)} {oc_27 kV_27 dc_27 pm_27 cd_27 ct_27 : Value}
    (a_27 : PySem.W.nsIn K mainGlobals "_law_gap" = some (some (.ref f_27)))
    (l_27 : K.lookup f_27 = some ⟨oc_27, od_27, .func (PySem.W.fnOf "_law_gap" "_law_gap" (defArgs sGap) (defBody sGap) (defScope sGap) .none kV_27 dc_27 pm_27 an_27 cd_27 ct_27), sl_27⟩)
    (c_27 : PySem.W.codeIn K cd_27 "_law_gap" = true)
    (k_27 : PySem.W.keepIn K (.ref f_27) = true)
    {f_28 : Addr} {od_28 an_28 : Option Addr} {sl_28 : Array (Option Value)} {oc_28 kV_28 dc_28 pm_28 cd_28 ct_28 : Value}
    (a_28 : PySem.W.nsIn K mainGlobals "_law_loose_text" = some (some (.ref f_28)))
    (l_28 : K.lookup f_28 = some ⟨oc_28, od_28, .func (PySem.W.fnOf "_law_loose_text" "_law_loose_text" (defArgs sLooseText) (defBody sLooseText) (defScope sLooseText) .none kV_28 dc_28 pm_28 an_28 cd_28 ct_28), sl_28⟩)
    (c_28 : PySem.W.codeIn K cd_28 "_law_loose_text" = true)
    (k_28 : PySem.W.keepIn K (.ref f_28) = true)
    {f_29 : Addr} {od_29 an_29 : Option Addr} {sl_29 : Array (Option Value)} {oc_29 kV_29 dc_29 pm_29 cd_29 ct_29 : Value}
    (a_29 : PySem.W.nsIn K mainGlobals "_law_is_int" = some (some (.ref f_29)))
    (l_29 : K.lookup f_29 = some ⟨oc_29, od_29, .func (PySem.W.fnOf "_law_is_int" "_law_is_int" (defArgs sIsInt) (defBody sIsInt) (defScope sIsInt) .none kV_29 dc_29 pm_29 an_29 cd_29 ct_29), sl_29⟩)
    (c_29 : PySem.W.codeIn K cd_29 "_law_is_int" = true)
    (k_29 : PySem.W.keepIn K (.ref f_29) = true)
    {f_30 : Addr} {od_30 an_30 : Option Addr} {sl_30 : Array (Option Value)} {oc_30 kV_30 dc_30 pm_30 cd_30 ct_30 : Value}
    (a_30 : PySem.W.nsIn K mainGlobals "_law_spoilt" = some (some (.ref f_30)))
    (l_30 : K.lookup f_30 = some ⟨oc_30, od_30, .func (PySem.W.fnOf "_law_spoilt" "_law_spoilt" (defArgs sSpoilt) (defBody sSpoilt) (defScope sSpoilt) .none kV_30 dc_30 pm_30 an_30 cd_30 ct_30), sl_30⟩)
    (c_30 : PySem.W.codeIn K cd_30 "_law_spoilt" = true)
    (k_30 : PySem.W.keepIn K (.ref f_30) = true)
    {f_31 : Addr} {od_31 an_31 : Option Addr} {sl_31 : Array (Option Value)} {oc_31 kV_31 dc_31 pm_31 cd_31 ct_31 : Value}
    (a_31 : PySem.W.nsIn K mainGlobals "_law_told_ok" = some (some (.ref f_31)))
    (l_31 : K.lookup f_31 = some ⟨oc_31, od_31, .func (PySem.W.fnOf "_law_told_ok" "_law_told_ok" (defArgs sToldOk) (defBody sToldOk) (defScope sToldOk) .none kV_31 dc_31 pm_31 an_31 cd_31 ct_31), sl_31⟩)
    (c_31 : PySem.W.codeIn K cd_31 "_law_told_ok" = true)
    (k_31 : PySem.W.keepIn K (.ref f_31) = true)
    {f_32 : Addr} {od_32 an_32 : Option Addr} {sl_32 : Array (Option Value)} {oc_32 kV_32 dc_32 pm_32 cd_32 ct_32 : Value}
    (a_32 : PySem.W.nsIn K mainGlobals "law" = some (some (.ref f_32)))
    (l_32 : K.lookup f_32 = some ⟨oc_32, od_32, .func (PySem.W.fnOf "law" "law" (defArgs sPLaw) (defBody sPLaw) (defScope sPLaw) .none kV_32 dc_32 pm_32 an_32 cd_32 ct_32), sl_32⟩)
    (c_32 : PySem.W.codeIn K cd_32 "law" = true)
    (k_32 : PySem.W.keepIn K (.ref f_32) = true)
    (fr : freeB K bltNames = true)
    (x1 : strAtB K "DIGITS" DIGs = true)
    (x2 : strAtB K "LETTERS" LETs = true)
    (x3 : strAtB K "SIGNS" SIGs = true)
    (x4 : strAtB K "ONE_SIGNS" ONEs = true)
    (x5 : intAtB K "LONGEST_WORD" 12 = true)
    (x6 : strsAtB K "OWN_WORDS" OWNs = true)
    : ∃ fd : FuncData, (∀ (s : Shared) (v : Value), BindsTo s fd ⟨[v], []⟩ [("script", v)]) ∧ ∀ base : Heap, K.In base → base.Ns mainGlobals mg → FnOkG P w K mg base CX0 8 fa fd ["script"] (spLaw44 K) := by
  have e := hfa.symm.trans (PySem.W.mg_of X Gn a_32)
  cases e
  have D_0 : DefAt K mg "_law_pen" sPen := ⟨_, _, PySem.W.mg_of X Gn a_0, fun_mk (st := sPen) l_0 c_0 k_0⟩
  have D_1 : DefAt K mg "_law_draw" sDraw := ⟨_, _, PySem.W.mg_of X Gn a_1, fun_mk (st := sDraw) l_1 c_1 k_1⟩
  have D_2 : DefAt K mg "_law_pick" sPick := ⟨_, _, PySem.W.mg_of X Gn a_2, fun_mk (st := sPick) l_2 c_2 k_2⟩
  have D_3 : DefAt K mg "_law_shuffled" sShuffled := ⟨_, _, PySem.W.mg_of X Gn a_3, fun_mk (st := sShuffled) l_3 c_3 k_3⟩
  have D_4 : DefAt K mg "_law_book_term" sBookTerm := ⟨_, _, PySem.W.mg_of X Gn a_4, fun_mk (st := sBookTerm) l_4 c_4 k_4⟩
  have D_5 : DefAt K mg "_law_book_atom" sBookAtom := ⟨_, _, PySem.W.mg_of X Gn a_5, fun_mk (st := sBookAtom) l_5 c_5 k_5⟩
  have D_6 : DefAt K mg "_law_book_sides" sBookSides := ⟨_, _, PySem.W.mg_of X Gn a_6, fun_mk (st := sBookSides) l_6 c_6 k_6⟩
  have D_7 : DefAt K mg "_law_book_form" sBookForm := ⟨_, _, PySem.W.mg_of X Gn a_7, fun_mk (st := sBookForm) l_7 c_7 k_7⟩
  have D_8 : DefAt K mg "_law_book_planted" sBookPlanted := ⟨_, _, PySem.W.mg_of X Gn a_8, fun_mk (st := sBookPlanted) l_8 c_8 k_8⟩
  have D_9 : DefAt K mg "_law_book_says" sBookSays := ⟨_, _, PySem.W.mg_of X Gn a_9, fun_mk (st := sBookSays) l_9 c_9 k_9⟩
  have D_10 : DefAt K mg "_law_book_head" sBookHead := ⟨_, _, PySem.W.mg_of X Gn a_10, fun_mk (st := sBookHead) l_10 c_10 k_10⟩
  have D_11 : DefAt K mg "_law_book_wide" sBookWide := ⟨_, _, PySem.W.mg_of X Gn a_11, fun_mk (st := sBookWide) l_11 c_11 k_11⟩
  have D_12 : DefAt K mg "_law_book" sBook := ⟨_, _, PySem.W.mg_of X Gn a_12, fun_mk (st := sBook) l_12 c_12 k_12⟩
  have D_13 : DefAt K mg "row_end" sPRowEnd := ⟨_, _, PySem.W.mg_of X Gn a_13, fun_mk (st := sPRowEnd) l_13 c_13 k_13⟩
  have D_14 : DefAt K mg "letter_word" sPLetterWord := ⟨_, _, PySem.W.mg_of X Gn a_14, fun_mk (st := sPLetterWord) l_14 c_14 k_14⟩
  have D_15 : DefAt K mg "figure_word" sPFigureWord := ⟨_, _, PySem.W.mg_of X Gn a_15, fun_mk (st := sPFigureWord) l_15 c_15 k_15⟩
  have D_16 : DefAt K mg "word_from" sPWordFrom := ⟨_, _, PySem.W.mg_of X Gn a_16, fun_mk (st := sPWordFrom) l_16 c_16 k_16⟩
  have D_17 : DefAt K mg "words_in" sPWordsIn := ⟨_, _, PySem.W.mg_of X Gn a_17, fun_mk (st := sPWordsIn) l_17 c_17 k_17⟩
  have D_18 : DefAt K mg "words_of" sPWordsOf := ⟨_, _, PySem.W.mg_of X Gn a_18, fun_mk (st := sPWordsOf) l_18 c_18 k_18⟩
  have D_19 : DefAt K mg "_law_row_of" sRowOf := ⟨_, _, PySem.W.mg_of X Gn a_19, fun_mk (st := sRowOf) l_19 c_19 k_19⟩
  have D_20 : DefAt K mg "_law_words" sWords := ⟨_, _, PySem.W.mg_of X Gn a_20, fun_mk (st := sWords) l_20 c_20 k_20⟩
  have D_21 : DefAt K mg "_law_atom_words" sAtomWords := ⟨_, _, PySem.W.mg_of X Gn a_21, fun_mk (st := sAtomWords) l_21 c_21 k_21⟩
  have D_22 : DefAt K mg "_law_row_words" sRowWords := ⟨_, _, PySem.W.mg_of X Gn a_22, fun_mk (st := sRowWords) l_22 c_22 k_22⟩
  have D_23 : DefAt K mg "_law_part_words" sPartWords := ⟨_, _, PySem.W.mg_of X Gn a_23, fun_mk (st := sPartWords) l_23 c_23 k_23⟩
  have D_24 : DefAt K mg "_law_form_words" sFormWords := ⟨_, _, PySem.W.mg_of X Gn a_24, fun_mk (st := sFormWords) l_24 c_24 k_24⟩
  have D_25 : DefAt K mg "_law_tree_words" sTreeWords := ⟨_, _, PySem.W.mg_of X Gn a_25, fun_mk (st := sTreeWords) l_25 c_25 k_25⟩
  have D_26 : DefAt K mg "_law_text_of" sTextOf := ⟨_, _, PySem.W.mg_of X Gn a_26, fun_mk (st := sTextOf) l_26 c_26 k_26⟩
  have D_27 : DefAt K mg "_law_gap" sGap := ⟨_, _, PySem.W.mg_of X Gn a_27, fun_mk (st := sGap) l_27 c_27 k_27⟩
  have D_28 : DefAt K mg "_law_loose_text" sLooseText := ⟨_, _, PySem.W.mg_of X Gn a_28, fun_mk (st := sLooseText) l_28 c_28 k_28⟩
  have D_29 : DefAt K mg "_law_is_int" sIsInt := ⟨_, _, PySem.W.mg_of X Gn a_29, fun_mk (st := sIsInt) l_29 c_29 k_29⟩
  have D_30 : DefAt K mg "_law_spoilt" sSpoilt := ⟨_, _, PySem.W.mg_of X Gn a_30, fun_mk (st := sSpoilt) l_30 c_30 k_30⟩
  have D_31 : DefAt K mg "_law_told_ok" sToldOk := ⟨_, _, PySem.W.mg_of X Gn a_31, fun_mk (st := sToldOk) l_31 c_31 k_31⟩
  have F_32 := fun_mk (st := sPLaw) l_32 c_32 k_32
  have B := blt_of X Gn fr
  have C : WordC K mg := ⟨strAtB_ok X Gn x1, strAtB_ok X Gn x2, strAtB_ok X Gn x3, strAtB_ok X Gn x4, intAtB_ok X Gn x5, strsAtB_ok X Gn x6⟩
  refine ⟨PySem.W.fnOf "law" "law" (defArgs sPLaw) (defBody sPLaw) (defScope sPLaw) .none kV_32 dc_32 pm_32 an_32 cd_32 ct_32, fun s v => .of_eq rfl, fun base _ _ => ?_⟩
  have hPen := ok_Pen (P := P) (w := w) (base := base) D_0 B 
  have hDraw := ok_Draw (P := P) (w := w) (base := base) D_1 B 
  have hPick := ok_Pick (P := P) (w := w) (base := base) D_2 B hDraw
  have hPickV := ok_PickV (P := P) (w := w) (base := base) D_2 B hDraw
  have hShuf := ok_Shuffled (P := P) (w := w) (base := base) D_3 B hDraw
  have hTerm := ok_BookTerm (P := P) (w := w) (base := base) D_4 B hDraw hPick
  have hAtom := ok_BookAtom (P := P) (w := w) (base := base) D_5 B hPick hTerm
  have hSides := ok_BookSides (P := P) (w := w) (base := base) D_6 B hPick
  have hForm := ok_BookForm (P := P) (w := w) (base := base) D_7 B hDraw hPick hAtom hSides
  have hPlant := ok_BookPlanted (P := P) (w := w) (base := base) D_8 B hPickV hShuf
  have hSays := ok_BookSays (P := P) (w := w) (base := base) D_9 B hShuf
  have hHead := ok_BookHead (P := P) (w := w) (base := base) D_10 B hDraw hPick hShuf
  have hWide := ok_BookWide (P := P) (w := w) (base := base) D_11 B hDraw hShuf hHead hForm hPlant hSays
  have hBook := ok_Book (P := P) (w := w) (base := base) D_12 B hWide
  have hRow := ok_PRowEnd (P := P) (w := w) (base := base) D_13 B 
  have hLet := ok_PLetterWord (P := P) (w := w) (base := base) D_14 B C hRow
  have hFig := ok_PFigureWord (P := P) (w := w) (base := base) D_15 B C hRow
  have hWord := ok_PWordFrom (P := P) (w := w) (base := base) D_16 B C hLet hFig
  have hIn := ok_PWordsIn (P := P) (w := w) (base := base) D_17 B hWord
  have hOf := ok_PWordsOf (P := P) (w := w) (base := base) D_18 B hIn
  have hRowOf := ok_RowOf (P := P) (w := w) (base := base) D_19 B 
  have hLawW := ok_Words (P := P) (w := w) (base := base) D_20 B hRowOf
  have hAtomW := ok_AtomWords (P := P) (w := w) (base := base) D_21 B 
  have hRowW := ok_RowWords (P := P) (w := w) (base := base) D_22 B 
  have hPartW := ok_PartWords (P := P) (w := w) (base := base) D_23 B hAtomW
  have hFormW := ok_FormWords (P := P) (w := w) (base := base) D_24 B hAtomW hPartW
  have hTreeW := ok_TreeWords (P := P) (w := w) (base := base) D_25 B hRowW hFormW
  have hTextOf := ok_TextOf (P := P) (w := w) (base := base) D_26 B hTreeW
  have hGap := ok_Gap (P := P) (w := w) (base := base) D_27 B hDraw hPick
  have hLoose := ok_LooseText (P := P) (w := w) (base := base) D_28 B hTreeW hPick hGap
  have hInt := ok_IsInt (P := P) (w := w) (base := base) D_29 B 
  have hSpoil := ok_Spoilt (P := P) (w := w) (base := base) D_30 B hDraw hPick
  have hTold := ok_ToldOk (P := P) (w := w) (base := base) D_31 B hInt
  exact ok_law F_32 B hPen hDraw hPick hBook hTextOf hLoose hOf hLawW hTold hSpoil
end Og

open PySem PySem.W PyProof.Rows
set_option Elab.async false
set_option maxRecDepth 100000 in
set_option maxHeartbeats 0 in
theorem PySem.Challenge.cw_owngrounds_k44_words_of_texts_holds : PySem.Challenge.rw_owngrounds_k44_words_of_texts.Holds := by
  w_on; o_law; k_head; (case hw => w_witness2)
  k_fill
  refine Og.walk_ofG (n := 63) (k := 8) (x := "script") (sp := Og.spLaw44) rfl (by decide) rfl ⟨rfl, by decide, by decide⟩ (fun w h Y => PySem.W.kIn_of Y) ?F (fun K H a ns hl hS => ⟨a, ns, rfl, hS, hl, fun _ => rfl⟩)
  intro w mg fa h KX G hmg
  refine' Og.all_mk KX G hmg ?a_0 ?l_0 ?c_0 ?k_0 ?a_1 ?l_1 ?c_1 ?k_1 ?a_2 ?l_2 ?c_2 ?k_2 ?a_3 ?l_3 ?c_3 ?k_3 ?a_4 ?l_4 ?c_4 ?k_4 ?a_5 ?l_5 ?c_5 ?k_5 ?a_6 ?l_6 ?c_6 ?k_6 ?a_7 ?l_7 ?c_7 ?k_7 ?a_8 ?l_8 ?c_8 ?k_8 ?a_9 ?l_9 ?c_9 ?k_9 ?a_10 ?l_10 ?c_10 ?k_10 ?a_11 ?l_11 ?c_11 ?k_11 ?a_12 ?l_12 ?c_12 ?k_12 ?a_13 ?l_13 ?c_13 ?k_13 ?a_14 ?l_14 ?c_14 ?k_14 ?a_15 ?l_15 ?c_15 ?k_15 ?a_16 ?l_16 ?c_16 ?k_16 ?a_17 ?l_17 ?c_17 ?k_17 ?a_18 ?l_18 ?c_18 ?k_18 ?a_19 ?l_19 ?c_19 ?k_19 ?a_20 ?l_20 ?c_20 ?k_20 ?a_21 ?l_21 ?c_21 ?k_21 ?a_22 ?l_22 ?c_22 ?k_22 ?a_23 ?l_23 ?c_23 ?k_23 ?a_24 ?l_24 ?c_24 ?k_24 ?a_25 ?l_25 ?c_25 ?k_25 ?a_26 ?l_26 ?c_26 ?k_26 ?a_27 ?l_27 ?c_27 ?k_27 ?a_28 ?l_28 ?c_28 ?k_28 ?a_29 ?l_29 ?c_29 ?k_29 ?a_30 ?l_30 ?c_30 ?k_30 ?a_31 ?l_31 ?c_31 ?k_31 ?a_32 ?l_32 ?c_32 ?k_32 ?fr ?x1 ?x2 ?x3 ?x4 ?x5 ?x6
  (case a_0 => k_is)
  (case l_0 => k_is)
  (case c_0 => k_is)
  (case k_0 => k_is)
  (case a_1 => k_is)
  (case l_1 => k_is)
  (case c_1 => k_is)
  (case k_1 => k_is)
  (case a_2 => k_is)
  (case l_2 => k_is)
  (case c_2 => k_is)
  (case k_2 => k_is)
  (case a_3 => k_is)
  (case l_3 => k_is)
  (case c_3 => k_is)
  (case k_3 => k_is)
  (case a_4 => k_is)
  (case l_4 => k_is)
  (case c_4 => k_is)
  (case k_4 => k_is)
  (case a_5 => k_is)
  (case l_5 => k_is)
  (case c_5 => k_is)
  (case k_5 => k_is)
  (case a_6 => k_is)
  (case l_6 => k_is)
  (case c_6 => k_is)
  (case k_6 => k_is)
  (case a_7 => k_is)
  (case l_7 => k_is)
  (case c_7 => k_is)
  (case k_7 => k_is)
  (case a_8 => k_is)
  (case l_8 => k_is)
  (case c_8 => k_is)
  (case k_8 => k_is)
  (case a_9 => k_is)
  (case l_9 => k_is)
  (case c_9 => k_is)
  (case k_9 => k_is)
  (case a_10 => k_is)
  (case l_10 => k_is)
  (case c_10 => k_is)
  (case k_10 => k_is)
  (case a_11 => k_is)
  (case l_11 => k_is)
  (case c_11 => k_is)
  (case k_11 => k_is)
  (case a_12 => k_is)
  (case l_12 => k_is)
  (case c_12 => k_is)
  (case k_12 => k_is)
  (case a_13 => k_is)
  (case l_13 => k_is)
  (case c_13 => k_is)
  (case k_13 => k_is)
  (case a_14 => k_is)
  (case l_14 => k_is)
  (case c_14 => k_is)
  (case k_14 => k_is)
  (case a_15 => k_is)
  (case l_15 => k_is)
  (case c_15 => k_is)
  (case k_15 => k_is)
  (case a_16 => k_is)
  (case l_16 => k_is)
  (case c_16 => k_is)
  (case k_16 => k_is)
  (case a_17 => k_is)
  (case l_17 => k_is)
  (case c_17 => k_is)
  (case k_17 => k_is)
  (case a_18 => k_is)
  (case l_18 => k_is)
  (case c_18 => k_is)
  (case k_18 => k_is)
  (case a_19 => k_is)
  (case l_19 => k_is)
  (case c_19 => k_is)
  (case k_19 => k_is)
  (case a_20 => k_is)
  (case l_20 => k_is)
  (case c_20 => k_is)
  (case k_20 => k_is)
  (case a_21 => k_is)
  (case l_21 => k_is)
  (case c_21 => k_is)
  (case k_21 => k_is)
  (case a_22 => k_is)
  (case l_22 => k_is)
  (case c_22 => k_is)
  (case k_22 => k_is)
  (case a_23 => k_is)
  (case l_23 => k_is)
  (case c_23 => k_is)
  (case k_23 => k_is)
  (case a_24 => k_is)
  (case l_24 => k_is)
  (case c_24 => k_is)
  (case k_24 => k_is)
  (case a_25 => k_is)
  (case l_25 => k_is)
  (case c_25 => k_is)
  (case k_25 => k_is)
  (case a_26 => k_is)
  (case l_26 => k_is)
  (case c_26 => k_is)
  (case k_26 => k_is)
  (case a_27 => k_is)
  (case l_27 => k_is)
  (case c_27 => k_is)
  (case k_27 => k_is)
  (case a_28 => k_is)
  (case l_28 => k_is)
  (case c_28 => k_is)
  (case k_28 => k_is)
  (case a_29 => k_is)
  (case l_29 => k_is)
  (case c_29 => k_is)
  (case k_29 => k_is)
  (case a_30 => k_is)
  (case l_30 => k_is)
  (case c_30 => k_is)
  (case k_30 => k_is)
  (case a_31 => k_is)
  (case l_31 => k_is)
  (case c_31 => k_is)
  (case k_31 => k_is)
  (case a_32 => k_is)
  (case l_32 => k_is)
  (case c_32 => k_is)
  (case k_32 => k_is)
  (case fr => kernel_rfl)
  (case x1 => kernel_rfl)
  (case x2 => kernel_rfl)
  (case x3 => kernel_rfl)
  (case x4 => kernel_rfl)
  (case x5 => kernel_rfl)
  (case x6 => kernel_rfl)
#print axioms PySem.Challenge.cw_owngrounds_k44_words_of_texts_holds
