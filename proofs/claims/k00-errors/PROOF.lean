import PyProof.Rows.All
import Wide.All
import OpenK.AllK
import Wide.FinOn
import HandS.ForMost
import HandS.Wide
import HandS.Codes
import HandS.More
import HandS.DeepEq
import HandS.ExcInit
import HandS.MakeKw
import HandS.ExcField
import HandS.ExcIs
import HandS.ExcValue
import HandS.Walk
import HandS.WordsExc
import HandS.Style
import HandS.ExcBuiltin
import PySem.Challenge.RW_owngrounds_k00_errors_made_by_hand
set_option Elab.async false
set_option linter.all false
set_option maxRecDepth 100000
set_option maxHeartbeats 4000000
/-! The law's pen: a dict of five words, and what a draw leaves of it. -/
namespace Og
open PySem L2

abbrev kCells : Key := .inr "cells"
abbrev kAt : Key := .inr "at"
abbrev kDig : Key := .inr "digits"
abbrev kCount : Key := .inr "count"
abbrev kFold : Key := .inr "fold"
def penKV (l : Addr) (t d c f : Int) : List (Key × V) := [(kCells, .ref l), (kAt, .int t), (kDig, .int d), (kCount, .int c), (kFold, .int f)]

theorem ne12 : ¬ kCells = kAt := by decide +kernel
theorem ne13 : ¬ kCells = kDig := by decide +kernel
theorem ne14 : ¬ kCells = kCount := by decide +kernel
theorem ne15 : ¬ kCells = kFold := by decide +kernel
theorem ne23 : ¬ kAt = kDig := by decide +kernel
theorem ne24 : ¬ kAt = kCount := by decide +kernel
theorem ne25 : ¬ kAt = kFold := by decide +kernel
theorem ne34 : ¬ kDig = kCount := by decide +kernel
theorem ne35 : ¬ kDig = kFold := by decide +kernel
theorem ne45 : ¬ kCount = kFold := by decide +kernel

section
variable (l : Addr) (t d c f : Int)
theorem pen_cells : valV (penKV l t d c f) kCells = some (.ref l) := valV_pos rfl
theorem pen_at : valV (penKV l t d c f) kAt = some (.int t) := (valV_neg ne12).trans (valV_pos rfl)
theorem pen_dig : valV (penKV l t d c f) kDig = some (.int d) := (valV_neg ne13).trans ((valV_neg ne23).trans (valV_pos rfl))
theorem pen_count : valV (penKV l t d c f) kCount = some (.int c) := (valV_neg ne14).trans ((valV_neg ne24).trans ((valV_neg ne34).trans (valV_pos rfl)))
theorem pen_fold : valV (penKV l t d c f) kFold = some (.int f) := (valV_neg ne15).trans ((valV_neg ne25).trans ((valV_neg ne35).trans ((valV_neg ne45).trans (valV_pos rfl))))
theorem put_any {kvs : List (Key × V)} {k : Key} {v u : V} (h : valV kvs k = some u) : putK kvs k v = kvs.map (fun kv => if kv.1 = k then (kv.1, v) else kv) := by
  unfold putK
  rw [valV_any, h]
  exact if_pos rfl
theorem put_at (y : Int) : putK (penKV l t d c f) kAt (.int y) = penKV l y d c f := by
  rw [put_any (pen_at l t d c f)]
  simp only [penKV, List.map_cons, List.map_nil, if_neg ne12, if_pos, if_neg (Ne.symm ne23), if_neg (Ne.symm ne24), if_neg (Ne.symm ne25)]
theorem put_dig (y : Int) : putK (penKV l t d c f) kDig (.int y) = penKV l t y c f := by
  rw [put_any (pen_dig l t d c f)]
  simp only [penKV, List.map_cons, List.map_nil, if_neg ne13, if_pos, if_neg ne23, if_neg (Ne.symm ne34), if_neg (Ne.symm ne35)]
theorem put_count (y : Int) : putK (penKV l t d c f) kCount (.int y) = penKV l t d y f := by
  rw [put_any (pen_count l t d c f)]
  simp only [penKV, List.map_cons, List.map_nil, if_neg ne14, if_pos, if_neg ne24, if_neg ne34, if_neg (Ne.symm ne45)]
theorem put_fold (y : Int) : putK (penKV l t d c f) kFold (.int y) = penKV l t d c y := by
  rw [put_any (pen_fold l t d c f)]
  simp only [penKV, List.map_cons, List.map_nil, if_neg ne15, if_pos, if_neg ne25, if_neg ne35, if_neg ne45]
end

/-- a pen stands at p; n more draws may be made -/
structure PenAt (H : Hp) (p : Addr) (n : Nat) : Prop where
  ex : ∃ (l : Addr) (cells : List Int) (t d c f : Int), H p = some (.dK (penKV l t d c f)) ∧ H l = some (.lst (cells.map V.int)) ∧ cells.length ≤ 63 ∧ 0 ≤ t ∧ 0 ≤ d ∧ 0 ≤ c ∧ c + n ≤ 2 ^ 40 ∧ 0 ≤ f ∧ f < 2 ^ 32
theorem PenAt.mono {H : Hp} {p : Addr} {n m : Nat} (h : PenAt H p n) (hm : m ≤ n) : PenAt H p m := by
  obtain ⟨l, cells, t, d, c, f, h1, h2, h3, h4, h5, h6, h7, h8, h9⟩ := h.ex
  exact ⟨l, cells, t, d, c, f, h1, h2, h3, h4, h5, h6, by omega, h8, h9⟩
theorem PenAt.same {H H' : Hp} {p : Addr} {n : Nat} (h : PenAt H p n) (s : Same H H') : PenAt H' p n := by
  obtain ⟨l, cells, t, d, c, f, h1, h2, r⟩ := h.ex
  exact ⟨l, cells, t, d, c, f, s _ _ h1, s _ _ h2, r⟩
theorem PenAt.some {H : Hp} {p : Addr} {n : Nat} (h : PenAt H p n) : ∃ kvs, H p = some (.dK kvs) := by
  obtain ⟨l, cells, t, d, c, f, h1, _⟩ := h.ex
  exact ⟨_, h1⟩
/-- all but what stands at p is as it was -/
def But (p : Addr) (H H' : Hp) : Prop := ∀ b o, H b = some o → b ≠ p → H' b = some o
theorem But.refl (p : Addr) (H : Hp) : But p H H := fun _ _ h _ => h
theorem But.trans {p : Addr} {H H1 H2 : Hp} (a : But p H H1) (b : But p H1 H2) : But p H H2 := fun c o h hc => b c o (a c o h hc) hc
theorem But.of {p : Addr} {H H' : Hp} (s : Same H H') : But p H H' := fun b o h _ => s b o h
theorem But.upd {p : Addr} {H : Hp} {o : HO} : But p H (upd H p o) := fun b u h hb => by rw [upd_ne hb]; exact h
theorem But.new {p q : Addr} {H : Hp} {o : HO} (hq : H q = none) : But p H (L2.upd H q o) := fun b u h _ => by
  rw [upd_ne (ne_of_none h hq)]
  exact h
theorem Same.new {q : Addr} {H : Hp} {o : HO} (hq : H q = none) : Same H (L2.upd H q o) := fun b u h => by
  rw [upd_ne (ne_of_none h hq)]
  exact h
/-- what is new stays new backwards -/
theorem But.back {p : Addr} {H H' : Hp} {n : Nat} (s : But p H H') (hp : PenAt H' p n) {b : Addr} (h : H' b = none) : H b = none := by
  cases q : H b with
  | none => rfl
  | some o =>
    by_cases e : b = p
    · obtain ⟨kvs, z⟩ := hp.some
      rw [e, z] at h
      cases h
    · rw [s b o q e] at h
      cases h
end Og

set_option Elab.async false
set_option linter.all false
set_option maxRecDepth 100000
set_option maxHeartbeats 4000000
/-! A def's promise where no repr runs around it: FnOk, with one thing more known of what runs around. -/
namespace Og
open PySem PySem.Spec PyProof.Rows L2

structure FnOkG (P : Program) (w : World) (K : PySem.W.Frag) (mg : Str → Option Value) (base : Heap)
    (CX : CXT) (k : Nat) (f : Addr) (fd : FuncData) (ps : List Str) (sp : Sp) : Prop where
  long : ∀ vs H Q E, sp vs H Q E → vs.length = ps.length
  goes : ∀ (A : Around) (outer : List Env) (s : Shared) (H : Hp) (args : Args) (us : List Value) (vs : List V) (Q : VK) (E : XK),
    A.guards = some [] → Room k A → Env0 P w K mg base A outer s H → BindsTo s fd args (ps.zip us) →
    Vals vs us → sp vs H Q E → codeAny (model P w) A (.call (.ref f) args) (CR CX outer P w H s Q E) s

section
variable {P : Program} {w : World} {K : PySem.W.Frag} {mg : Str → Option Value} {base : Heap}
/-- a def of the text, nothing leaves it; that no repr runs is handed on -/
theorem fun_okG {x qual : Str} {st : Stmt} {f : Addr} {fd : FuncData} {N ps : List Str} {k : Nat} {sp : Sp} (F : Fun K x qual st f fd)
    (S : FnScope N ps (defScope st)) (len : ∀ vs H Q E, sp vs H Q E → vs.length = ps.length)
    (hbody : ∀ (cdv : Value) (A : Around) (outer : List Env) (s : Shared) (H : Hp) (vs : List V) (Q : VK) (E : XK), A.guards = some [] →
      Room k (A.deeper (envOfC qual (defScope st) s.heap.objs.size f cdv)) → sp vs H Q E →
      ∃ t, PSs (cxOf CX0 P w K mg base N qual (defScope st) f cdv A outer s H E).nox (defBody st) t ∧ t { nx := fun _ H' => Q .non H', rt := Q } (start N vs) H) :
    FnOkG P w K mg base CX0 (k + 1) f fd ps sp := by
  obtain ⟨oc, od, kV, doc, pm, an, cdv, ct, osl, rfl, lk, hcd⟩ := F.ex
  refine ⟨len, ?_⟩
  intro A outer s H args us vs Q E hg hr e0 hb r hsp
  have hl := len _ _ _ _ hsp
  have kb : ∀ b o, base.get? b = some o → s.heap.get? b = some o := fun b o e => (e0.bs b o e).1
  have KX : K.In s.heap := e0.mod.kin.keeps kb
  have lim : s.heap.NoLimit := e0.mod.nolimit.keeps kb
  refine codeAny_call_function hr.depth (KX _ _ lk) rfl S.co S.gen rfl (PySem.W.codeRec_of KX hcd) (hb _ _ _ _ ?_)
  refine wpAny_newFunctionEnv_cells S.kind ?hk ?_
  case hk =>
    rintro ⟨n, v⟩ hy
    cases S.par n (List.of_mem_zip hy).1 with
    | inl q => exact .inl q
    | inr q => exact .inr ⟨q, PySem.W.cellsFrom_some _ _ _ (.inl q)⟩
  intro env he s1 x
  subst he
  refine ⟨lim.keeps x.toInCall.keep, codeAny_func ?_⟩
  obtain ⟨t, ht, hq⟩ := hbody cdv A outer s H vs Q E hg (hr.deeper _) hsp
  have I : Inv (cxOf CX0 P w K mg base N qual (defScope st) f cdv A outer s H E) [] (start N vs) H s1 := inv_start S hr.hd e0 hl r x
  refine wpAny_mono (ht.nox.run [] s1 (start N vs) H _ I hq) ?_ (fun e s' z => z)
  intro fl s' hs
  cases fl with
  | ret u => exact let ⟨v, _, H', J, rv, q⟩ := hs; ⟨v, H', J.os, J.bare, J.base, J.hok, rv, q⟩
  | next => exact let ⟨_, H', J, q⟩ := hs; ⟨V.non, H', J.os, J.bare, J.base, J.hok, rfl, q⟩
  | brk => exact let ⟨_, _, _, q⟩ := hs; False.elim q
  | cont => exact let ⟨_, _, _, q⟩ := hs; False.elim q
end
section
variable {X : Cx} {CX : CXT} {k : Nat} {f : Addr} {fd : FuncData} {ps : List Str} {sp : Sp} {E : XK} {x : Str} {p pos : Pos} {e : Expr} {es : List Expr} {t : TA} {ds : List Value} {dvs : List V}
/-- a call of such a def -/
theorem pe_callG (F : FnOkG X.prog X.w X.K X.mg X.base CX k f fd ps sp) (hG : X.A.guards = some []) (hr : Room k X.A) (hg : Gl X x) (hm : X.mg x = some (.ref f)) (hk : PySem.W.keepIn X.K (.ref f) = true)
    (hb : Binds X.K fd ps ds) (hd : Vals dvs ds) (hx : Passes CX X E)
    (ha : PA X (e :: es) t) (hdb : (x == ("__debug__" : Str)) = false := by decide) (he : starEach (e :: es) X.env = (false, eval e X.env) :: starEach es X.env := by rfl) (hpl : (backTo pos (starEach es X.env)).any (·.1) = false := by rfl) :
    PE X (.Call (.Name x p) (e :: es) [] pos) (tCall sp dvs E t) := by
  constructor
  intro pins s σ H Q I h
  refine wpAny_Call_Name_kw (ld_glob I hg hm (PySem.W.callWith_K (h₀ := X.base) I.ok.mod.kin hk (thn (ha.run pos pins s σ H _ I h) ?_) he hpl) hdb)
  rintro us s1 ⟨vs, H1, I1, r, q⟩
  have r2 : Vals (vs ++ dvs) (us ++ ds) := r.append hd
  have hl : (us ++ ds).length = ps.length := by rw [← r2.length]; exact F.long _ _ _ _ q
  refine ⟨I1.kIn, wpAny_call (codeAny_mono (F.goes X.A X.stack s1 H1 ⟨us, []⟩ (us ++ ds) (vs ++ dvs) Q E hG hr I1.env0 (hb s1 us I1.kIn hl) r2 q) ?_)⟩
  rintro (er | fl) s' hq
  · exact hx pins σ H1 s1 er s' I1 hq
  · cases fl with
    | ret u => exact I1.after hq
    | next => exact hq.elim
    | brk => exact hq.elim
    | cont => exact hq.elim
end
/-- the law's own call, from such a promise: the script is an object of the module, or is tracked as one that is read alone -/
theorem law_goes {P : Program} {w : World} {K : PySem.W.Frag} {mg mb : Str → Option Value} {k : Nat} {fa a : Addr} {fd : FuncData} {x : Str} {sp : Sp} {s₁ : Shared} {vs : List Value} {ns : List Int}
    (KX : K.In s₁.heap) (hns : s₁.heap.Ns mainGlobals mg) (hb : s₁.heap.Ns builtinsNs mb) (hbb : ∀ x : Str, x ≠ "__name__" → mb x = bootBuiltins x) (hlim : s₁.heap.NoLimit) (hg : s₁.gens = #[])
    (ha : s₁.heap.get? a = some { cls := .type "list", data := .seq vs.toArray }) (hi : IntsAre vs ns) (hl : ns.length ≤ sizeLine) (hr : Room k callerA)
    (F : ∀ base : Heap, K.In base → base.Ns mainGlobals mg → FnOkG P w K mg base CX0 k fa fd [x] sp) (hbind : ∀ (s : Shared) (u : Value), BindsTo s fd ⟨[u], []⟩ [(x, u)])
    (hsp : ∀ H : Hp, SqL K H a (ns.map V.int) → sp [.ref a] H (fun v _ => v = .bl true) fun _ _ _ => False) :
    codeAny (model P w) callerA (.call (.ref fa) ⟨[.ref a], []⟩) (fun r s' => r = .ok (.ret (.bool true)) ∧ OldK s₁.heap s'.heap ∧ s'.os = s₁.os ∧ AllBare s'.gens) s₁ := by
  have rv := vals_ints hi
  let oS : Obj := { cls := .type "list", data := .seq vs.toArray }
  let H : Hp := fun b => if b = a ∧ K.lookup a = none then some (.frz oS (.lst (ns.map V.int))) else none
  have hH : ∀ b u, H b = some u → b = a ∧ K.lookup a = none ∧ u = .frz oS (.lst (ns.map V.int)) := fun b u z => by
    by_cases q : b = a ∧ K.lookup a = none
    · have z2 : some (HO.frz oS (.lst (ns.map V.int))) = some u := (if_pos q).symm.trans z
      exact ⟨q.1, q.2, (Option.some.inj z2).symm⟩
    · have z2 : (none : Option HO) = some u := (if_neg q).symm.trans z
      cases z2
  have ok : HOk P w H s₁.heap := fun b u z => by
    obtain ⟨rfl, _, rfl⟩ := hH b u z
    exact ⟨ha, by rw [List.length_map]; exact hl, vs, _, rv, ha⟩
  have seq : SqL K H a (ns.map V.int) := by
    cases e : K.lookup a with
    | none => exact .inl (.inr ⟨oS, if_pos ⟨rfl, e⟩⟩)
    | some o =>
      have z := KX a o e
      rw [ha] at z
      cases z
      exact .inr ⟨_, vs.toArray, _, e, rfl, rfl, rfl, by rw [List.size_toArray, hi.length]; exact hl, by simpa using rv⟩
  have free : ∀ {b : Addr} {o : Obj}, s₁.heap.get? b = some o → o ≠ oS → H b = none := fun {b o} e d => by
    cases q : H b with
    | none => rfl
    | some u =>
      obtain ⟨rfl, _, _⟩ := hH b u q
      rw [ha] at e
      exact absurd (Option.some.inj e).symm d
  have nsB : ∀ {b : Addr} {m : Str → Option Value}, s₁.heap.Ns b m → (hidT s₁.heap H).Ns b m := fun {b m} ⟨o, es, ep, e, d, r⟩ =>
    ⟨o, es, ep, hidT_get e (free e fun z => by rw [z] at d; cases d), d, r⟩
  have KB : K.In (hidT s₁.heap H) := fun b o e => hidT_get (KX b o e) (by
    cases q : H b with
    | none => rfl
    | some u =>
      obtain ⟨rfl, n, _⟩ := hH b u q
      rw [n] at e
      cases e)
  obtain ⟨mc, l1, l2⟩ := hlim
  have e0 : Env0 P w K mg (hidT s₁.heap H) callerA [] s₁ H :=
    { frames := rfl, mod := ⟨KB, nsB hns, ⟨mb, nsB hb, hbb⟩, ⟨mc, nsB l1, l2⟩⟩, bs := fun b o e => of_hidT e, bsz := Nat.le_of_eq (hidT_size _ _), funs := trivial, frf := (fun b hb => (nomatch hb)), hok := ok, bare := .of_eq hg }
  refine codeAny_mono ((F _ KB (nsB hns)).goes callerA [] s₁ H ⟨[.ref a], []⟩ [.ref a] [.ref a] _ _ rfl hr e0 (hbind s₁ (.ref a)) (.cons rfl .nil) (hsp H seq)) ?_
  rintro (e | fl) s' h
  · exact False.elim h
  cases fl with
  | next => exact False.elim h
  | brk => exact False.elim h
  | cont => exact False.elim h
  | ret u =>
    obtain ⟨v, H', os, bare, un, hok', r', q⟩ := h
    cases (show v = .bl true from q)
    cases (show u = Value.bool true from r')
    refine ⟨rfl, OldK.of_keep fun b o e => ?_, os, bare⟩
    cases q : H b with
    | none => exact un.keep b o e q (by simp [frs]) (by simp)
    | some u =>
      obtain ⟨rfl, _, rfl⟩ := hH b u q
      obtain ⟨e1, _⟩ := hok' b _ (un.frzs b _ _ q)
      rw [ha] at e
      cases e
      exact e1
/-- the end of a law of at most n ints -/
theorem walk_ofG {l : PySem.W.OpenLaw} {n k : Nat} {q : Program} {loose : List Str} {XP : (Str → Option Value) → Heap → Prop} {YP : World → Heap → Prop} {d : DefRec} {K : Params → PySem.W.Frag} {sp : PySem.W.Frag → Sp} {x : Str}
    (hn : l.most = some n) (hn2 : n ≤ sizeLine) (hdf : d.params.defaults = []) (hr : Room k callerA) (hY : ∀ (w : World) (h : Heap), YP w h → (K w.params).In h)
    (F : ∀ (w : World) (mg : Str → Option Value) (fa : Addr) (h : Heap), (K w.params).In h → h.Ns mainGlobals mg → mg d.name = some (.ref fa) →
      ∃ fd : FuncData, (∀ (s : Shared) (u : Value), BindsTo s fd ⟨[u], []⟩ [(x, u)]) ∧
        ∀ base : Heap, (K w.params).In base → base.Ns mainGlobals mg → FnOkG l.prog w (K w.params) mg base CX0 k fa fd [x] (sp (K w.params)))
    (hsp : ∀ (K : PySem.W.Frag) (H : Hp) (a : Addr) (ns : List Int), ns.length ≤ n → SqL K H a (ns.map V.int) → sp K [.ref a] H (fun v _ => v = .bl true) fun _ _ _ => False) :
    PySem.W.WalkO q loose XP YP l.row.toRowW d [] (fun f vs => PySem.call f vs) := by
  refine Att.attach_call hn hdf ?_
  intro w s₀ s₁ mg mb fa o pm cd doc a vs ns G Y ho hd hcd hmg hobj hints hlen hg
  obtain ⟨fd, hb, hF⟩ := F w mg fa _ (hY w _ Y) G.T.g hmg
  exact law_goes (hY w _ Y) G.T.g G.T.b G.T.builtins G.T.nolimit hg hobj hints (Nat.le_trans hlen hn2) hr hF hb fun H hS => hsp _ H a ns hlen hS
end Og

set_option Elab.async false
set_option linter.all false
set_option maxRecDepth 100000
set_option maxHeartbeats 4000000
namespace Og
open PySem L2
def top (i : Nat) : Stmt := PySem.Challenge.pw_owngrounds_k00_errors_made_by_hand.main.body.getD i (.Pass ⟨0, 0, 0, 0⟩)
abbrev sPen : Stmt := top 19
abbrev sDraw : Stmt := top 20
abbrev sPick : Stmt := top 21

/-- the built-ins that the pen's defs read -/
structure PenTxt (mg : Str → Option Value) : Prop where
  int : mg "int" = none
  list : mg "list" = none
  len : mg "len" = none

def spPen (K : PySem.W.Frag) : Sp := fun vs H Q _ => ∃ (a : Addr) (ns : List Int), vs = [.ref a] ∧ SqL K H a (ns.map V.int) ∧ ns.length ≤ 63 ∧
  ∀ p H', H p = none → Same H H' → PenAt H' p (2 ^ 39) → Q (.ref p) H'
def spDraw : Sp := fun vs H Q _ => ∃ (p : Addr) (m : Int) (n : Nat), vs = [.ref p, .int m] ∧ PenAt H p (n + 1) ∧ 0 < m ∧ m < 2 ^ 62 ∧
  ∀ (r : Int) H', 0 ≤ r → r < m → PenAt H' p n → But p H H' → Q (.int r) H'

section
variable {P : Program} {w : World} {K : PySem.W.Frag} {mg : Str → Option Value} {base : Heap}
theorem scPen : FnScope ["script", "fold", "cell"] ["script"] (defScope sPen) := ⟨rfl, rfl, rfl, by decide +kernel, rfl, by decide +kernel, by decide +kernel⟩
theorem ok_pen {f : Addr} {fd : FuncData} (F : Fun K "_law_pen" "_law_pen" sPen f fd) (T : PenTxt mg) : FnOk P w K mg base CX0 1 f fd ["script"] (spPen K) := by
  refine F.ok scPen (fun vs H Q E h => ?_) (fun cdv A outer s H vs Q E hr h => ?_)
  · obtain ⟨a, ns, rfl, _⟩ := h
    rfl
  · obtain ⟨a, ns, rfl, hS, hlen, k⟩ := h
    refine ⟨_, pss_cons (ps_set (i := 1) scPen.nd rfl (Or.inl rfl) pe_int)
      (pss_cons (ps_for PassesOwn.never rfl (pi_list (pv 0)) (pg_name (i := 2) scPen.nd rfl (Or.inl rfl))
        (pss_one (ps_set (i := 1) scPen.nd rfl (Or.inl rfl) (pe_op op_mod (pe_callTy call_int1 (by rfl) T.int (by decide +kernel) (pa_cons (pe_op op_add (pe_op op_mul (pv 1) pe_int) (pv 2)) pa_nil)) pe_int))))
      (pss_one (ps_ret (pe_disp (pps_cons pe_str (pe_callTy call_list_of (by rfl) T.list (by decide +kernel) (pa_cons (pv 0) pa_nil)) (pps_cons pe_str pe_int (pps_cons pe_str pe_int (pps_cons pe_str pe_int (pps_cons pe_str (pv 1) pps_nil))))) (by rfl) (by rfl) (fun z => by cases z) (by decide))))), ?_⟩
    refine ⟨_, rfl, a, rfl, ⟨_, hS⟩, for_list (K := K) (a := a) (xs := ns.map V.int) (fun i σ H2 => ∃ (f : Int) (v : Option V), σ = [some (.ref a), some (.int f), v] ∧ H2 = H ∧ 0 ≤ f ∧ f < 1000000009)
      ⟨0, none, rfl, rfl, by decide, by decide⟩ (fun i σ H2 _ ⟨_, _, _, e, _⟩ => by rw [e]; exact hS) ?_ ?_⟩
    · rintro i y σ H2 hi ⟨f, v, rfl, rfl, h0, h1⟩
      obtain ⟨z, rfl⟩ : ∃ z, y = V.int z := by
        rw [List.getElem?_map] at hi
        cases e : ns[i]? with
        | none =>
          rw [e] at hi
          cases hi
        | some z =>
          rw [e] at hi
          exact ⟨z, (Option.some.inj hi).symm⟩
      refine ⟨_, rfl, _, _, rfl, rfl, .inr ⟨by decide, by decide⟩, _, rfl, _, _, rfl, rfl, .inl ⟨_, rfl, _, _, rfl, rfl, (by show (0 : Int) < 1000000009; decide), ?_⟩⟩
      exact ⟨_, some (.int z), rfl, rfl, Int.emod_nonneg _ (by decide), Int.emod_lt_of_pos _ (by decide)⟩
    · rintro σ H2 ⟨f, v, rfl, rfl, h0, h1⟩
      intro p hp
      refine ⟨_, rfl, a, _, rfl, .inl (Same.seq (Same.new hp) hS), fun l hl => ?_⟩
      have npl : p ≠ l := fun e => by
        rw [e, upd_same] at hl
        cases hl
      have hlH : H2 l = none := (Same.new hp).free hl
      refine ⟨_, rfl, ?_⟩
      refine ⟨by rw [upd_ne npl, upd_same], [(kCells, .ref l), (kAt, .int 0), (kDig, .int 0), (kCount, .int 0), (kFold, .int f)], rfl, (by show 5 ≤ 15; decide), ?_⟩
      have em : mergeK [] [(kCells, V.ref l), (kAt, .int 0), (kDig, .int 0), (kCount, .int 0), (kFold, .int f)] = penKV l 0 0 0 f := by
        simp only [mergeK, List.foldl_cons, List.foldl_nil]
        simp only [putK, List.any_cons, List.any_nil, List.map_cons, List.map_nil, decide_eq_false ne12, decide_eq_false ne13, decide_eq_false ne14, decide_eq_false ne15, decide_eq_false ne23, decide_eq_false ne24, decide_eq_false ne25, decide_eq_false ne34, decide_eq_false ne35, decide_eq_false ne45, Bool.or_false, if_neg Bool.false_ne_true, List.cons_append, List.nil_append]
        rfl
      rw [em]
      refine k p _ hp (fun b o e => ?_) ⟨⟨l, ns, 0, 0, 0, f, upd_same, ?_, hlen, by decide, by decide, by decide, by decide, h0, by omega⟩⟩
      · rw [upd_ne (ne_of_none e hp), upd_ne (ne_of_none e hlH), upd_ne (ne_of_none e hp)]
        exact e
      · rw [upd_ne npl.symm, upd_same]

theorem scDraw : FnScope ["pen", "many", "cell", "digit", "blend"] ["pen", "many"] (defScope sDraw) := ⟨rfl, rfl, rfl, by decide +kernel, rfl, by decide +kernel, by decide +kernel⟩
theorem ok_draw {f : Addr} {fd : FuncData} (F : Fun K "_law_draw" "_law_draw" sDraw f fd) (T : PenTxt mg) : FnOk P w K mg base CX0 1 f fd ["pen", "many"] spDraw := by
  refine F.ok scDraw (fun vs H Q E h => ?_) (fun cdv A outer s H vs Q E hr h => ?_)
  · obtain ⟨p, m, n, rfl, _⟩ := h
    rfl
  · obtain ⟨p, m, n, rfl, hP, hm0, hm1, k⟩ := h
    have hu := hu_of hr
    refine ⟨_, pss_cons (ps_dput hu (pv 0) pe_str (pe_op op_add (pe_dget hu (pv 0) pe_str (fun _ _ => rfl)) pe_int) rfl)
      (C8.pss_cut (ps_if (PW.pt (pw_and (pt_cmpR op_eq (pe_dget hu (pv 0) pe_str (fun _ _ => rfl)) pe_int (nomark _)) (pw_and1 (pt_cmpR op_lt (pe_dget hu (pv 0) pe_str (fun _ _ => rfl)) (pe_callB call_len_seq (by rfl) T.len PySem.boot_len (pa_cons (pe_dget hu (pv 0) pe_str (fun _ _ => rfl)) pa_nil)) (nomark _)))))
          (pss_cons (ps_set (i := 2) scDraw.nd rfl (Or.inl rfl) (pe_ix ix_list (pe_dget hu (pv 0) pe_str (fun _ _ => rfl)) (pe_dget hu (pv 0) pe_str (fun _ _ => rfl)) (fun _ _ => rfl)))
          (pss_cons (ps_dput hu (pv 0) pe_str (pe_op op_add (pe_dget hu (pv 0) pe_str (fun _ _ => rfl)) pe_int) rfl)
          (pss_one (ps_if (pt_cmpR op_ge (pv 2) (pe_op op_pow pe_int pe_int) (nomark _))
            (pss_one (ps_dput hu (pv 0) pe_str (pe_op op_sub (pv 2) (pe_op op_pow pe_int pe_int)) rfl))
            (pss_one (ps_dput hu (pv 0) pe_str (pe_op op_mod (pe_callTy call_int1 (by rfl) T.int (by decide +kernel) (pa_cons (pe_op op_add (pe_op op_mul (pe_dget hu (pv 0) pe_str (fun _ _ => rfl)) pe_int) (pv 2)) pa_nil)) pe_int) rfl))))))
          pss_nil)
      (pss_cons (ps_if (pt_cmpR op_gt (pe_dget hu (pv 0) pe_str (fun _ _ => rfl)) pe_int (nomark _))
          (pss_cons (ps_set (i := 3) scDraw.nd rfl (Or.inl rfl) (pe_op op_mod (pe_callTy call_int1 (by rfl) T.int (by decide +kernel) (pa_cons (pe_dget hu (pv 0) pe_str (fun _ _ => rfl)) pa_nil)) (pv 1)))
          (pss_cons (ps_dput hu (pv 0) pe_str (pe_op op_fdivW (pe_dget hu (pv 0) pe_str (fun _ _ => rfl)) (pv 1)) rfl)
          (pss_one (ps_ret (pv 3)))))
          pss_nil)
      (pss_cons (ps_set (i := 4) scDraw.nd rfl (Or.inl rfl) (pe_op op_add (pe_op op_add (pe_dget hu (pv 0) pe_str (fun _ _ => rfl)) (pe_op op_mul (pe_dget hu (pv 0) pe_str (fun _ _ => rfl)) pe_int)) pe_int))
      (pss_one (ps_ret (pe_op op_mod (pe_op op_fdiv (pe_callTy call_int1 (by rfl) T.int (by decide +kernel) (pa_cons (pe_op op_mod (pe_op op_pow (pv 4) pe_int) pe_int) pa_nil)) pe_int) (pv 1))))))), ?_⟩
    obtain ⟨l, cells, t, d, c, f, h1, h2, h3, h4, h5, h6, h7, h8, h9⟩ := hP.ex
    have npl : l ≠ p := ne_of h2 h1 (by intro q; cases q)
    -- the dict's words as they come
    have five : ∀ (l : Addr) (t d c f : Int), (penKV l t d c f).length < sizeLine := fun l t d c f => by show 5 < sizeLine; decide
    have gC : ∀ {H' : Hp} {t d c f : Int}, H' p = some (.dK (penKV l t d c f)) → DGet H' p (.str "cells") (some (.ref l)) := fun {H' t d c f} e => by have z := DGet.k (k := kCells) e; rw [pen_cells] at z; exact z
    have gA : ∀ {H' : Hp} {t d c f : Int}, H' p = some (.dK (penKV l t d c f)) → DGet H' p (.str "at") (some (.int t)) := fun {H' t d c f} e => by have z := DGet.k (k := kAt) e; rw [pen_at] at z; exact z
    have gD : ∀ {H' : Hp} {t d c f : Int}, H' p = some (.dK (penKV l t d c f)) → DGet H' p (.str "digits") (some (.int d)) := fun {H' t d c f} e => by have z := DGet.k (k := kDig) e; rw [pen_dig] at z; exact z
    have gN : ∀ {H' : Hp} {t d c f : Int}, H' p = some (.dK (penKV l t d c f)) → DGet H' p (.str "count") (some (.int c)) := fun {H' t d c f} e => by have z := DGet.k (k := kCount) e; rw [pen_count] at z; exact z
    have gF : ∀ {H' : Hp} {t d c f : Int}, H' p = some (.dK (penKV l t d c f)) → DGet H' p (.str "fold") (some (.int f)) := fun {H' t d c f} e => by have z := DGet.k (k := kFold) e; rw [pen_fold] at z; exact z
    have pA : ∀ {H' : Hp} {t d c f : Int} (y : Int), H' p = some (.dK (penKV l t d c f)) → DPut H' p (.str "at") (.int y) (upd H' p (.dK (penKV l y d c f))) := fun {H' t d c f} y e => by have z := DPut.k (k := kAt) (v := .int y) e (five ..); rw [put_at] at z; exact z
    have pD : ∀ {H' : Hp} {t d c f : Int} (y : Int), H' p = some (.dK (penKV l t d c f)) → DPut H' p (.str "digits") (.int y) (upd H' p (.dK (penKV l t y c f))) := fun {H' t d c f} y e => by have z := DPut.k (k := kDig) (v := .int y) e (five ..); rw [put_dig] at z; exact z
    have pN : ∀ {H' : Hp} {t d c f : Int} (y : Int), H' p = some (.dK (penKV l t d c f)) → DPut H' p (.str "count") (.int y) (upd H' p (.dK (penKV l t d y f))) := fun {H' t d c f} y e => by have z := DPut.k (k := kCount) (v := .int y) e (five ..); rw [put_count] at z; exact z
    have pF : ∀ {H' : Hp} {t d c f : Int} (y : Int), H' p = some (.dK (penKV l t d c f)) → DPut H' p (.str "fold") (.int y) (upd H' p (.dK (penKV l t d c y))) := fun {H' t d c f} y e => by have z := DPut.k (k := kFold) (v := .int y) e (five ..); rw [put_fold] at z; exact z
    refine ⟨_, rfl, p, _, rfl, gN h1, _, _, rfl, rfl, _, rfl, p, _, rfl, pN _ h1, ?_⟩
    -- behind the first if
    refine ⟨fun σ' H' => ∃ (v : Option V) (t d f : Int), σ' = [some (.ref p), some (.int m), v, none, none] ∧ H' p = some (.dK (penKV l t d (c + 1) f)) ∧ H' l = some (.lst (cells.map V.int)) ∧ But p H H' ∧ 0 ≤ t ∧ 0 ≤ d ∧ 0 ≤ f ∧ f < 2 ^ 32, ?_, ?_⟩
    · refine ⟨_, rfl, p, _, rfl, gD upd_same, rfl, _, rfl, ite2 (fun hd => ?_) (fun hd => ?_)⟩
      · refine ⟨_, rfl, p, _, rfl, gA upd_same, _, rfl, p, _, rfl, gC upd_same, l, _, rfl, .inl (SqL.of (by rw [upd_ne npl]; exact h2)), _, _, rfl, rfl, _, rfl, ite2 (fun ht => ?_) (fun ht => ?_)⟩
        · have ht' : t < (cells.length : Int) := by
            have z := of_decide_eq_true ht
            rw [List.length_map] at z
            exact z
          obtain ⟨j, rfl⟩ : ∃ j : Nat, t = (j : Int) := ⟨t.toNat, by omega⟩
          have hj : j < cells.length := by omega
          refine ⟨_, rfl, p, _, rfl, gC upd_same, _, rfl, p, _, rfl, gA upd_same, l, _, _, .int cells[j], rfl, rfl, SqL.of (by rw [upd_ne npl]; exact h2), at_of (j := j) rfl (by rw [List.getElem?_map, List.getElem?_eq_getElem hj]; rfl), ?_⟩
          refine ⟨_, rfl, p, _, rfl, gA upd_same, _, _, rfl, rfl, _, rfl, p, _, rfl, pA _ upd_same, ?_⟩
          refine ⟨_, rfl, _, _, rfl, rfl, ⟨by decide, by decide, by decide⟩, _, _, rfl, rfl, _, rfl, ite2 (fun hc => ?_) (fun hc => ?_)⟩
          · have hc' := of_decide_eq_true hc
            refine ⟨_, rfl, _, _, rfl, rfl, ⟨by decide, by decide, by decide⟩, _, _, rfl, rfl, _, rfl, p, _, rfl, pD _ upd_same, ?_⟩
            refine ⟨some (.int cells[j]), _, _, f, rfl, upd_same, by rw [upd_ne npl, upd_ne npl, upd_ne npl]; exact h2, ?_, by omega, by omega, h8, h9⟩
            exact But.trans But.upd (But.trans But.upd But.upd)
          · refine ⟨_, rfl, p, _, rfl, gF upd_same, _, _, rfl, rfl, .inr ⟨by decide, by decide⟩, _, rfl, _, _, rfl, rfl, .inl ⟨_, rfl, _, _, rfl, rfl, (by show (0 : Int) < 2147483563; decide), _, rfl, p, _, rfl, pF _ upd_same, ?_⟩⟩
            refine ⟨some (.int cells[j]), _, d, _, rfl, upd_same, by rw [upd_ne npl, upd_ne npl, upd_ne npl]; exact h2, But.trans But.upd (But.trans But.upd But.upd), by omega, h5, Int.emod_nonneg _ (by decide), ?_⟩
            exact Int.lt_trans (Int.emod_lt_of_pos _ (by decide)) (by decide)
        · exact ⟨none, t, d, f, rfl, upd_same, by rw [upd_ne npl]; exact h2, But.upd, h4, h5, h8, h9⟩
      · exact ⟨none, t, d, f, rfl, upd_same, by rw [upd_ne npl]; exact h2, But.upd, h4, h5, h8, h9⟩
    · rintro σ' H' ⟨v, t, d, f, rfl, e1, e2, bt, b4, b5, b8, b9⟩
      refine ⟨_, rfl, p, _, rfl, gD e1, _, _, rfl, rfl, _, rfl, ite2 (fun hd => ?_) (fun hd => ?_)⟩
      · refine ⟨_, rfl, p, _, rfl, gD e1, .inl ⟨_, rfl, _, rfl, _, _, rfl, rfl, hm0, ?_⟩⟩
        refine ⟨_, rfl, p, _, rfl, gD e1, _, rfl, _, _, rfl, rfl, wide_div (b := 62) hm0 (by omega) (by decide) (by decide), _, rfl, p, _, rfl, pD _ e1, ?_⟩
        refine ⟨_, rfl, ?_⟩
        refine k _ _ (Int.emod_nonneg _ (by omega)) (Int.emod_lt_of_pos _ hm0) ⟨⟨l, cells, t, d / m, c + 1, f, upd_same, by rw [upd_ne npl]; exact e2, h3, b4, Int.ediv_nonneg b5 (by omega), by omega, by omega, b8, b9⟩⟩ (bt.trans But.upd)
      · refine ⟨_, rfl, p, _, rfl, gF e1, _, rfl, p, _, rfl, gN e1, _, _, rfl, rfl, .inr ⟨by decide, by decide⟩, _, _, rfl, rfl, _, _, rfl, rfl, ?_⟩
        refine ⟨_, rfl, _, _, rfl, rfl, ⟨by decide, by decide, by omega⟩, _, _, rfl, rfl, (by show (0 : Int) < 2305843009213693951; decide), .inl ⟨_, rfl, _, _, rfl, rfl, ⟨by decide, by decide⟩, _, rfl, _, _, rfl, rfl, hm0, ?_⟩⟩
        refine k _ _ (Int.emod_nonneg _ (by omega)) (Int.emod_lt_of_pos _ hm0) ⟨⟨l, cells, t, d, c + 1, f, e1, e2, h3, b4, b5, by omega, by omega, b8, b9⟩⟩ bt
end
end Og

set_option Elab.async false
set_option linter.all false
set_option maxRecDepth 100000
set_option maxHeartbeats 4000000
/-! The drawn values of many kinds: each is equal to itself, and told alike. -/
namespace Og
open PySem PySem.Spec PyProof.Rows L2

/-- a drawn value, and what it is as data -/
inductive Gv (H : Hp) : V → PyData → Prop
  | int (n : Int) : n.natAbs < 10 ^ 12 → Gv H (.int n) (.int n)
  | non : Gv H .non .none
  | tru : Gv H (.bl true) (.bool true)
  | str (z : Str) : (reprText z).length ≤ 1000 → Gv H (.str z) (.str z)
  | tup (a : Addr) (n : Int) : H a = some (.tup [.int n, .str "x"]) → n.natAbs < 10 ^ 12 → Gv H (.ref a) (.tuple [.int n, .str "x"])
  | lst (a : Addr) (n : Int) : H a = some (.lst [.int n]) → n.natAbs < 10 ^ 12 → Gv H (.ref a) (.list [.int n])
  | dct (a : Addr) (n : Int) : H a = some (.dK [(.inl n, .int 1)]) → n.natAbs < 10 ^ 12 → Gv H (.ref a) (.dict [(.int n, .int 1)])
theorem Gv.same {H H' : Hp} {v : V} {d : PyData} (g : Gv H v d) (s : Same H H') : Gv H' v d := by
  cases g with
  | int n h => exact .int n h
  | non => exact .non
  | tru => exact .tru
  | str z h => exact .str z h
  | tup a n h h' => exact .tup a n (s _ _ h) h'
  | lst a n h h' => exact .lst a n (s _ _ h) h'
  | dct a n h h' => exact .dct a n (s _ _ h) h'
theorem Gv.but {H H' : Hp} {v : V} {d : PyData} {p : Addr} {m : Nat} (g : Gv H v d) (hp : PenAt H p m) (s : But p H H') : Gv H' v d := by
  obtain ⟨l, cells, t, e, c, f, h1, _⟩ := hp.ex
  cases g with
  | int n h => exact .int n h
  | non => exact .non
  | tru => exact .tru
  | str z h => exact .str z h
  | tup a n h h' => exact .tup a n (s _ _ h (ne_of h h1 (by intro q; cases q))) h'
  | lst a n h h' => exact .lst a n (s _ _ h (ne_of h h1 (by intro q; cases q))) h'
  | dct a n h h' =>
    refine .dct a n (s _ _ h (ne_of h h1 ?_)) h'
    intro q
    have q1 := congrArg (fun o => match o with | HO.dK kvs => kvs.length | _ => 0) q
    exact absurd (show (1 : Nat) = 5 from q1) (by decide)
theorem log_small {n : Int} (h : n.natAbs < 10 ^ 12) : n.natAbs.log2 < 1920 := by
  by_cases z : n.natAbs = 0
  · rw [z]
    decide
  · rw [Nat.log2_lt z]
    exact Nat.lt_trans h (by decide)
theorem Gv.is {H : Hp} {v : V} {d : PyData} (g : Gv H v d) : flatB v = true ∨ ∃ a, v = .ref a := by
  cases g with
  | int n h => exact .inl rfl
  | non => exact .inl rfl
  | tru => exact .inl rfl
  | str z h => exact .inl rfl
  | tup a n h h' => exact .inr ⟨a, rfl⟩
  | lst a n h h' => exact .inr ⟨a, rfl⟩
  | dct a n h h' => exact .inr ⟨a, rfl⟩

theorem xOk : PyData.strOk ("x" : Str) = true := by decide +kernel
theorem log_one : Nat.log2 1 < 1920 := by decide +kernel
section
variable {X : Cx}
/-- x == x -/
def rSelf : R2 := fun x y H Q => x = y ∧ (∃ d, Gv H x d) ∧ Q (.bl true) H
theorem op_self (hu : X.A.units + 64 < cLine) : OpR X (compareOp .Eq) rSelf := by
  intro pins s σ H x y v u Q I rx ry h
  obtain ⟨rfl, ⟨d, g⟩, q⟩ := h
  have flat : scal x x = true → wpAny (model X.prog X.w) X.A (compareOp .Eq v u) (EP X pins σ Q) X.xe s := fun sc =>
    op_eq pins s σ H x x v u Q I rx ry ⟨sc, by rw [decide_eq_true (rfl : x = x)]; exact q⟩
  have data : ∀ d, Dp X.K H x d → SeqAt.shaped d = true → PyData.eqv d d = true → wpAny (model X.prog X.w) X.A (compareOp .Eq v u) (EP X pins σ Q) X.xe s := fun d hd hs he =>
    op_eqD hu pins s σ H x x v u Q I rx ry ⟨d, d, hd, hd, hs, hs, by rw [he]; exact q⟩
  cases g with
  | int n h => exact flat rfl
  | non => exact flat rfl
  | tru => exact flat rfl
  | str z h => exact flat rfl
  | tup a n h h' =>
    have e : PyData.eqv (.tuple [.int n, .str "x"]) (.tuple [.int n, .str "x"]) = true := SeqAt.eqv_refl _ (by simp [PyData.canLay0, PyData.canLayAll0, xOk])
    exact data _ (.tup (SqT.of h) (.cons (.int n) (.cons (.str _) .nil))) (by simp [SeqAt.shaped, PyData.canLay0, PyData.canLayAll0, PyData.depth, PyData.depthAll, xOk]) e
  | lst a n h h' =>
    have e : PyData.eqv (.list [.int n]) (.list [.int n]) = true := SeqAt.eqv_refl _ (by simp [PyData.canLay0, PyData.canLayAll0])
    exact data _ (.lst (SqL.of h) (.cons (.int n) .nil)) (by simp [SeqAt.shaped, PyData.canLay0, PyData.canLayAll0, PyData.depth, PyData.depthAll]) e
  | dct a n h h' =>
    refine op_eqV hu pins s σ H _ _ v u Q I rx ry ⟨1, by decide, .inr ⟨a, a, _, _, rfl, rfl, h, h, rfl, ?_⟩, q⟩
    intro p hp
    have e : p = (.inl n, .int 1) := List.mem_singleton.mp hp
    subst e
    exact ⟨.int 1, valV_pos rfl, .inl ⟨rfl, rfl⟩⟩
/-- two tuples of the very same values -/
def rTup (K : PySem.W.Frag) (b : Bool) : R2 := fun x y H Q => ∃ (a c : Addr) (xs : List V), x = .ref a ∧ y = .ref c ∧ SqT K H a xs ∧ SqT K H c xs ∧ (∀ v ∈ xs, flatB v = true ∨ ∃ a, v = .ref a) ∧ Q (.bl b) H
theorem same_items {A : Around} {s : Shared} : ∀ {xs : List V} {us ws : List Value}, (∀ v ∈ xs, flatB v = true ∨ ∃ a, v = .ref a) → Vals xs us → Vals xs ws →
    ∀ j (h1 : j < us.length) (h2 : j < ws.length), SeqAt.EqAt A s us[j] ws[j] true
  | _, _, _, _, .nil, .nil, j, h1, _ => absurd h1 (Nat.not_lt_zero j)
  | _, _, _, hf, .cons r t, .cons r' t', 0, _, _ => by
    rcases hf _ List.mem_cons_self with f | ⟨a, rfl⟩
    · exact eqAt_same r r' f
    · cases r
      cases r'
      exact SeqAt.EqAt.same _
  | _, _, _, hf, .cons r t, .cons r' t', j + 1, h1, h2 => same_items (fun v hv => hf v (List.mem_cons_of_mem _ hv)) t t' j (Nat.lt_of_succ_lt_succ h1) (Nat.lt_of_succ_lt_succ h2)
theorem tup_all {n m : Nat} (e : n = m) : ((List.range (min n m)).all (fun _ => true) && n == m) = true := by
  subst e
  simp
theorem op_eqTup (hu : X.A.units + 64 < cLine) : OpR X (compareOp .Eq) (rTup X.K true) := by
  intro pins s σ H x y v u Q I rx ry h
  obtain ⟨a, c, xs, rfl, rfl, ha, hc, hf, q⟩ := h
  cases (show v = Value.ref a from rx)
  cases (show u = Value.ref c from ry)
  obtain ⟨us, r1, p1, _⟩ := I.tuple ha
  obtain ⟨ws, r2, p2, _⟩ := I.tuple hc
  obtain ⟨o1, e1, c1, n1, d1⟩ := p1
  obtain ⟨o2, e2, c2, n2, d2⟩ := p2
  refine SeqAt.RcAt.tuples (e := fun _ => true) ⟨o1, e1, c1, n1, d1⟩ ⟨o2, e2, c2, n2, d2⟩ (by omega) ?_ X.prog X.w X.xe _ ?_
  · intro j h1 h2
    simpa using same_items hf r1 r2 j (by simpa using h1) (by simpa using h2)
  · rw [tup_all (by rw [List.size_toArray, List.size_toArray, ← r1.length, ← r2.length])]
    exact ⟨.bl true, H, I, rfl, q⟩
theorem op_neTup (hu : X.A.units + 64 < cLine) : OpR X (compareOp .NotEq) (rTup X.K false) := by
  intro pins s σ H x y v u Q I rx ry h
  obtain ⟨a, c, xs, rfl, rfl, ha, hc, hf, q⟩ := h
  cases (show v = Value.ref a from rx)
  cases (show u = Value.ref c from ry)
  obtain ⟨us, r1, p1, _⟩ := I.tuple ha
  obtain ⟨ws, r2, p2, _⟩ := I.tuple hc
  obtain ⟨o1, e1, c1, n1, d1⟩ := p1
  obtain ⟨o2, e2, c2, n2, d2⟩ := p2
  refine SeqAt.RcNeAt.tuples (e := fun _ => true) ⟨o1, e1, c1, n1, d1⟩ ⟨o2, e2, c2, n2, d2⟩ (by omega) ?_ X.prog X.w X.xe _ ?_
  · intro j h1 h2
    simpa using same_items hf r1 r2 j (by simpa using h1) (by simpa using h2)
  · rw [tup_all (by rw [List.size_toArray, List.size_toArray, ← r1.length, ← r2.length])]
    exact ⟨.bl false, H, I, rfl, q⟩
/-- repr(x) -/
theorem call_reprG (hg : X.A.guards = some []) (hu : X.A.units + 64 < cLine) : CallR X (.builtin "repr") (fun xs H Q => ∃ x d, xs = [x] ∧ Gv H x d ∧ Q (.str d.shown) H) := by
  intro pins s σ H xs us Q I r h
  obtain ⟨x, d, rfl, g, q⟩ := h
  obtain ⟨u, rfl, rx⟩ := vals1 r
  cases g with
  | int n h =>
    obtain ⟨t, rfl⟩ := rx
    exact PySem.P.repr_of_int (log_small h) ⟨.str _, H, I.tok _, ⟨_, rfl⟩, q⟩
  | non =>
    cases rx
    exact PySem.P.repr_of_none ⟨.str _, H, I.tok _, ⟨_, rfl⟩, q⟩
  | tru =>
    cases rx
    exact PySem.P.repr_of_bool ⟨.str _, H, I.tok _, ⟨_, rfl⟩, q⟩
  | str z h =>
    obtain ⟨t, rfl⟩ := rx
    exact PySem.P.repr_of_str ⟨.str _, H, I.tok _, ⟨_, rfl⟩, q⟩ (Nat.le_trans h (by decide))
  | tup a n h h' =>
    cases rx
    obtain ⟨as, hr⟩ := Dp.reads I (.tuple [.int n, .str "x"]) (.ref a) (.ref a) (.tup (SqT.of h) (.cons (.int n) (.cons (.str _) .nil))) rfl
    have lx : (reprText ("x" : Str)).length ≤ 3 := by decide +kernel
    have li := PyData.shown_int_le h'
    refine repr_of_reads' hr ?_ (PyData.noDict_hsm ?_) hg ?_ (fun _ _ e => e) (fun h' u tk k => ⟨.str _, H, I.kept (t' := tk) k, ⟨_, rfl⟩, q⟩) ?_
    · simp [PyData.showable, PyData.showableAll, log_small h']
    · simp [PyData.hasDict, PyData.hasDictAll]
    · simp only [PyData.depth, PyData.depthAll]
      omega
    · simp only [PyData.shown, PyData.shownAll] at li ⊢
      refine Nat.le_trans (tupleText_len_le _) ?_
      simp only [List.map_cons, List.map_nil, List.sum_cons, List.sum_nil, List.length_cons, List.length_nil]
      rw [sizeLine_eq]
      omega
  | lst a n h h' =>
    cases rx
    obtain ⟨as, hr⟩ := Dp.reads I (.list [.int n]) (.ref a) (.ref a) (.lst (SqL.of h) (.cons (.int n) .nil)) rfl
    have li := PyData.shown_int_le h'
    refine repr_of_reads' hr ?_ (PyData.noDict_hsm ?_) hg ?_ (fun _ _ e => e) (fun h' u tk k => ⟨.str _, H, I.kept (t' := tk) k, ⟨_, rfl⟩, q⟩) ?_
    · simp [PyData.showable, PyData.showableAll, log_small h']
    · simp [PyData.hasDict, PyData.hasDictAll]
    · simp only [PyData.depth, PyData.depthAll]
      omega
    · simp only [PyData.shown, PyData.shownAll] at li ⊢
      refine Nat.le_trans (listText_len_le _) ?_
      simp only [List.map_cons, List.map_nil, List.sum_cons, List.sum_nil, List.length_cons, List.length_nil]
      rw [sizeLine_eq]
      omega
  | dct a n h h' =>
    cases rx
    obtain ⟨_, ys, vs, rv, o, es, ep, ho, hx, hd, hk, hp, _⟩ := (show ObjOk X.prog X.w H s.heap a (.dK [(.inl n, .int 1)]) from I.hok a _ h)
    have li := PyData.shown_int_le h'
    have hr : Reads s.heap (.ref a) (.dict [(.int n, .int 1)]) ((a :: ([] ++ [])) ++ ([] ++ [])) := by
      unfold KV at rv
      cases rv with
      | cons r1 r2 =>
        cases r2
        obtain ⟨e1, t1, e2⟩ := r1
        obtain ⟨el⟩ := es
        cases hp with
        | cons hi hv hp' =>
          cases hp'
          rw [← e1] at hi
          rw [e2] at hv
          obtain ⟨t, et⟩ := Value.isInt_shape (k := n) (by exact hi)
          refine .dict ho hx.1 hd ?_ ?_
          · simp only [List.map_cons, List.map_nil, et]
            exact .cons (.int n t) .nil
          · simp only [List.map_cons, List.map_nil, hv]
            exact .cons (.int 1 t1) .nil
    refine repr_of_reads' hr ?_ (fun _ => ?_) hg ?_ (fun _ _ e => e) (fun h' u tk k => ⟨.str _, H, I.kept (t' := tk) k, ⟨_, rfl⟩, q⟩) ?_
    · simp [PyData.showable, PyData.showableKv, log_small h', log_one]
    · intro m
      have e : sysModules = a := by simpa using m
      rw [e] at ys
      simp at ys
    · simp only [PyData.depth, PyData.depthKv]
      omega
    · simp only [PyData.shown, PyData.shownKv] at li ⊢
      refine Nat.le_trans (dictText_len_le _) ?_
      simp only [List.map_cons, List.map_nil, List.sum_cons, List.sum_nil, List.length_cons, List.length_nil, strLen_append]
      rw [sizeLine_eq]
      have l1 : ((": " : String) : Str).length = 2 := rfl
      have l2 : (Str.ofString (toString (1 : Int))).length ≤ 13 := PyData.shown_int_le (i := 1) (by decide)
      have l3 : (Str.ofString (toString n)).length ≤ 13 := li
      have l4 : (Str.ofString ": ").length = 2 := rfl
      first
        | omega
        | (simp only [l4]; omega)
end
end Og

set_option Elab.async false
set_option linter.all false
set_option maxRecDepth 100000
set_option maxHeartbeats 4000000
namespace Og
open PySem L2
theorem But.seq {K : PySem.W.Frag} {p a : Addr} {H H' : Hp} {xs : List V} (s : But p H H') (ne : a ≠ p) (h : SqL K H a xs) : SqL K H' a xs := by
  rcases h with (h | ⟨o, h⟩) | h
  · exact .inl (.inl (s _ _ h ne))
  · exact .inl (.inr ⟨o, s _ _ h ne⟩)
  · exact .inr h
abbrev sVal : Stmt := top 22
/-- _law_pick from a list of ours -/
def spPick (K : PySem.W.Frag) : Sp := fun vs H Q _ => ∃ (p a : Addr) (xs : List V) (n : Nat), vs = [.ref p, .ref a] ∧ PenAt H p (n + 1) ∧ SqL K H a xs ∧ a ≠ p ∧ xs ≠ [] ∧ xs.length ≤ 1000 ∧
  ∀ x H', x ∈ xs → PenAt H' p n → But p H H' → Q x H'
/-- a drawn value -/
def spVal : Sp := fun vs H Q _ => ∃ (p : Addr) (n : Nat), vs = [.ref p] ∧ PenAt H p (n + 2) ∧ ∀ x d H', Gv H' x d → PenAt H' p n → But p H H' → Q x H'
structure PickTxt (K : PySem.W.Frag) (mg : Str → Option Value) (fD : Addr) : Prop where
  p : PenTxt mg
  gD : mg "_law_draw" = some (.ref fD)
  kD : PySem.W.keepIn K (.ref fD) = true
structure ValTxt (K : PySem.W.Frag) (mg : Str → Option Value) (fD fK : Addr) : Prop where
  k : PickTxt K mg fD
  gK : mg "_law_pick" = some (.ref fK)
  kK : PySem.W.keepIn K (.ref fK) = true
  str : mg "str" = none
theorem word_ok {n : Int} (h0 : 0 ≤ n) (h1 : n < 10 ^ 12) : (reprText (("word" : Str) ++ Str.ofString (toString n))).length ≤ 1000 := by
  have len : (Str.ofString (toString n)).length ≤ 12 := PyProof.Rows.toString_length_le h0 (by decide) h1
  have signs : ∀ c ∈ ((("word" : Str) ++ Str.ofString (toString n)).cps.toList), c < 16 ^ 8 := by
    intro c hc
    have hc2 : c ∈ (("word" : Str)).cps.toList ++ (Str.ofString (toString n)).cps.toList := by
      have e : ((("word" : Str) ++ Str.ofString (toString n)).cps.toList) = (("word" : Str)).cps.toList ++ (Str.ofString (toString n)).cps.toList := Array.toList_append ..
      rw [← e]
      exact hc
    rcases List.mem_append.mp hc2 with hc2 | hc2
    · have e : (("word" : Str)).cps.toList = [119, 111, 114, 100] := by decide +kernel
      rw [e] at hc2
      simp at hc2
      omega
    · by_cases z : c ≤ 57
      · omega
      · exact absurd hc2 (PyProof.Rows.int_text_free' c ⟨by omega, .inr (by omega)⟩ n)
  have l4 : (("word" : Str)).length = 4 := by decide +kernel
  refine Nat.le_trans (PySem.StrLaws.reprText_len _ signs) ?_
  rw [strLen_append, l4]
  omega
section
variable {P : Program} {w : World} {K : PySem.W.Frag} {mg : Str → Option Value} {base : Heap}
theorem scPick : FnScope ["pen", "some"] ["pen", "some"] (defScope sPick) := ⟨rfl, rfl, rfl, by decide +kernel, rfl, by decide +kernel, by decide +kernel⟩
theorem ok_pick {f fD : Addr} {fd fdD : FuncData} (F : Fun K "_law_pick" "_law_pick" sPick f fd) (T : PickTxt K mg fD) (FD : Fun K "_law_draw" "_law_draw" sDraw fD fdD) (bD : Binds K fdD ["pen", "many"] []) :
    FnOk P w K mg base CX0 2 f fd ["pen", "some"] (spPick K) := by
  have GD : FnOk P w K mg base CX0 1 fD fdD ["pen", "many"] spDraw := ok_draw FD T.p
  refine F.ok scPick (fun vs H Q E h => ?_) (fun cdv A outer s H vs Q E hr h => ?_)
  · obtain ⟨p, a, xs, n, rfl, _⟩ := h
    rfl
  · obtain ⟨p, a, xs, n, rfl, hP, hS, ne, hne, hlen, k⟩ := h
    refine ⟨_, pss_one (ps_ret (pe_ix ix_list (pv 1) (pe_call GD hr rfl T.gD T.kD bD .nil pass0 (pa_cons (pv 0) (pa_cons (pe_callB call_len_seq (by rfl) T.p.len PySem.boot_len (pa_cons (pv 1) pa_nil)) pa_nil))) (fun _ _ => rfl))), ?_⟩
    have pos : 0 < xs.length := List.length_pos_iff.mpr hne
    refine ⟨_, rfl, _, rfl, _, rfl, a, xs, rfl, .inl hS, p, (xs.length : Int), n, rfl, hP, by omega, by omega, fun r H' r0 r1 hP' bt => ?_⟩
    obtain ⟨j, rfl⟩ : ∃ j : Nat, r = (j : Int) := ⟨r.toNat, by omega⟩
    have hj : j < xs.length := by omega
    exact ⟨a, xs, _, xs[j], rfl, rfl, bt.seq ne hS, at_of (j := j) rfl (List.getElem?_eq_getElem hj), k _ _ (List.getElem_mem hj) hP' bt⟩
theorem scVal : FnScope ["pen", "number"] ["pen"] (defScope sVal) := ⟨rfl, rfl, rfl, by decide +kernel, rfl, by decide +kernel, by decide +kernel⟩
theorem ok_val {f fD fK : Addr} {fd fdD fdK : FuncData} (F : Fun K "_law_value_of" "_law_value_of" sVal f fd) (T : ValTxt K mg fD fK) (FD : Fun K "_law_draw" "_law_draw" sDraw fD fdD) (bD : Binds K fdD ["pen", "many"] [])
    (FK : Fun K "_law_pick" "_law_pick" sPick fK fdK) (bK : Binds K fdK ["pen", "some"] []) : FnOk P w K mg base CX0 3 f fd ["pen"] spVal := by
  have GD : FnOk P w K mg base CX0 1 fD fdD ["pen", "many"] spDraw := ok_draw FD T.k.p
  have GK : FnOk P w K mg base CX0 2 fK fdK ["pen", "some"] (spPick K) := ok_pick FK T.k FD bD
  refine F.ok scVal (fun vs H Q E h => ?_) (fun cdv A outer s H vs Q E hr h => ?_)
  · obtain ⟨p, n, rfl, _⟩ := h
    rfl
  · obtain ⟨p, n, rfl, hP, k⟩ := h
    have hr1 : Room 1 _ := hr.mono (by decide)
    refine ⟨_, pss_cons (ps_set (i := 1) scVal.nd rfl (Or.inl rfl) (pe_call GD hr1 rfl T.k.gD T.k.kD bD .nil pass0 (pa_cons (pv 0) (pa_cons (pe_op op_pow pe_int pe_int) pa_nil))))
      (pss_one (ps_ret (pe_call GK hr rfl T.gK T.kK bK .nil pass0 (pa_cons (pv 0) (pa_cons (pe_lst (pa_cons (pv 1) (pa_cons (pe_un un_neg (pv 1)) (pa_cons pe_non (pa_cons pe_bl
        (pa_cons (pe_op op_add_str pe_str (pe_callTy call_str_int (by rfl) T.str (by decide +kernel) (pa_cons (pv 1) pa_nil)))
        (pa_cons (pe_tup (pa_cons (pv 1) (pa_cons pe_str pa_nil)))
        (pa_cons (pe_lst (pa_cons (pv 1) pa_nil))
        (pa_cons (pe_disp (pps_cons (pv 1) pe_int pps_nil) (by rfl) (by rfl) (fun z => by cases z) (by decide))
        (pa_cons pe_str pa_nil)))))))))) pa_nil))))), ?_⟩
    refine ⟨_, rfl, _, _, rfl, rfl, ⟨by decide, by decide, by decide⟩, p, _, n + 1, rfl, hP, by decide, by decide, fun r H1 r0 r1 hP1 bt => ?_⟩
    have r1' : r < 10 ^ 12 := r1
    have ra : r.natAbs < 10 ^ 12 := by omega
    have l4 : (("word" : Str)).length = 4 := by decide +kernel
    have l12 : (Str.ofString (toString r)).length ≤ 12 := PyProof.Rows.toString_length_le r0 (by decide) r1'
    refine ⟨_, rfl, _, rfl, _, rfl, _, rfl, _, rfl, _, rfl, log_small ra, _, _, rfl, rfl, (by rw [sizeLine_eq]; show (("word" : Str)).length + (Str.ofString (toString r)).length ≤ _; omega), _, rfl, (by show 2 ≤ sizeLine; decide), fun t ht => ?_⟩
    refine ⟨_, rfl, (by show 1 ≤ sizeLine; decide), fun l hl => ?_⟩
    intro d hd
    have nlt : l ≠ t := fun e => by
      rw [e, upd_same] at hl
      cases hl
    have hl1 : H1 l = none := by rw [← hl, upd_ne nlt]
    have ndl : d ≠ l := fun e => by
      rw [e, upd_same] at hd
      cases hd
    have ndt : d ≠ t := fun e => by
      rw [e, upd_ne (Ne.symm nlt), upd_same] at hd
      cases hd
    have hd1 : H1 d = none := by rw [← hd, upd_ne ndl, upd_ne ndt]
    refine ⟨_, rfl, upd_same, [(.inl r, .int 1)], rfl, (by show 1 ≤ 15; decide), ?_⟩
    refine ⟨(by show 9 ≤ sizeLine; decide), fun q hq => ?_⟩
    have em : mergeK [] [((.inl r : Key), V.int 1)] = [(.inl r, .int 1)] := rfl
    rw [upd_upd, em] at hq
    rw [upd_upd, em]
    have s2 : Same H1 (upd H1 t (.tup [V.int r, V.str "x"])) := Same.new ht
    have s3 : Same (upd H1 t (.tup [V.int r, V.str "x"])) (upd (upd H1 t (.tup [V.int r, V.str "x"])) l (.lst [V.int r])) := Same.new hl
    have s4 : Same (upd (upd H1 t (.tup [V.int r, V.str "x"])) l (.lst [V.int r])) (upd (upd (upd H1 t (.tup [V.int r, V.str "x"])) l (.lst [V.int r])) d (.dK [(.inl r, .int 1)])) := Same.new hd
    have s5 : Same (upd (upd (upd H1 t (.tup [V.int r, V.str "x"])) l (.lst [V.int r])) d (.dK [(.inl r, .int 1)])) (upd (upd (upd (upd H1 t (.tup [V.int r, V.str "x"])) l (.lst [V.int r])) d (.dK [(.inl r, .int 1)])) q
      (.lst [V.int r, V.int (-r), V.non, V.bl true, V.str (("word" : Str) ++ Str.ofString (toString r)), V.ref t, V.ref l, V.ref d, V.str ""])) := Same.new hq
    have s14 := (s2.trans s3).trans s4
    have s15 := s14.trans s5
    have nqp : q ≠ p := fun e => by
      obtain ⟨kvs, z⟩ := (hP1.same s14).some
      rw [e, z] at hq
      cases hq
    refine ⟨p, q, _, n, rfl, hP1.same s15, SqL.of upd_same, nqp, List.cons_ne_nil _ _, (by show 9 ≤ 1000; decide), fun x H' hx hP' bt2 => ?_⟩
    have gt := s5 _ _ (s4 _ _ (s3 _ _ (upd_same (H := H1) (a := t) (o := .tup [V.int r, V.str "x"]))))
    have gl := s5 _ _ (s4 _ _ (upd_same (H := upd H1 t (.tup [V.int r, V.str "x"])) (a := l) (o := .lst [V.int r])))
    have gd := s5 _ _ (upd_same (H := upd (upd H1 t (.tup [V.int r, V.str "x"])) l (.lst [V.int r])) (a := d) (o := .dK [(.inl r, .int 1)]))
    have key : ∃ dd, Gv (upd (upd (upd (upd H1 t (.tup [V.int r, V.str "x"])) l (.lst [V.int r])) d (.dK [(.inl r, .int 1)])) q
      (.lst [V.int r, V.int (-r), V.non, V.bl true, V.str (("word" : Str) ++ Str.ofString (toString r)), V.ref t, V.ref l, V.ref d, V.str ""])) x dd := by
      simp only [List.mem_cons, List.not_mem_nil, or_false] at hx
      rcases hx with rfl | rfl | rfl | rfl | rfl | rfl | rfl | rfl | rfl
      · exact ⟨_, .int r ra⟩
      · exact ⟨_, .int (-r) (by omega)⟩
      · exact ⟨_, .non⟩
      · exact ⟨_, .tru⟩
      · exact ⟨_, .str _ (word_ok r0 r1')⟩
      · exact ⟨_, .tup t r gt ra⟩
      · exact ⟨_, .lst l r gl ra⟩
      · exact ⟨_, .dct d r gd ra⟩
      · exact ⟨_, .str _ (by have e : (reprText ("" : Str)).length ≤ 3 := by decide +kernel
                             omega)⟩
    obtain ⟨dd, g⟩ := key
    exact k x dd H' (g.but (hP1.same s15) bt2) hP' ((bt.trans (But.of s15)).trans bt2)
end
end Og

set_option Elab.async false
set_option linter.all false
set_option maxRecDepth 100000
set_option maxHeartbeats 4000000
/-! An own exception class over ValueError, made by a call with keywords: its __new__ lets them pass, its __init__ takes them. -/
namespace Og
open PySem PySem.W PySem.Calls PyProof.Rows PySem.HandSPX
section
variable {M : Model} {A : Around} {E : Value → Shared → Prop} {h : Heap} {g : Array GenState} {d : Drawn} {t : Nat} {os : OsState}
variable {nm q : Str} {C N : Addr} {bs bm bmB : List Value} {hdct : Bool} {sn : List Str} {sub : List Value} {ab : Bool} {col : Option Bool} {dd : Option Addr} {k0 k1 k2 k3 k5 : Option Value} {B newId initId : String}
theorem kw_check_new (F : ExcBaseFacts B newId initId bmB) (hT : ∀ X : String, bm.contains (.type X) = bmB.contains (.type X)) {rest : List Value} {kw : List (Str × Value)} {Q : Unit → Shared → Prop}
    (hC : h.get? C = some (excClassObj nm q C N bs bm hdct sn sub ab col dd k0 k1 k2 k3 k5 newId)) (hq : Q () ⟨h, g, d, t, os⟩) :
    wpAny M A (checkBuiltinCall newId ⟨.ref C :: rest, kw⟩) Q E ⟨h, g, d, t, os⟩ := by
  have inB : (Value.ref C :: bm).contains (.type B) = true := by rw [List.contains_cons, hT, F.hasB, Bool.or_true]
  have star := F.noStar
  simp only [checkBuiltinCall, F.newKind, F.newSplit, F.newRow]
  repeat (first
    | refine wpAny_loadPart_at hC ?_
    | (refine wpAny_isSubtype_exc hC ?_; rw [inB])
    | refine wpAny_staticBase_exc hC ?_
    | refine wpAny_madeBy_exc hC ?_
    | simp only [bne_self_eq_false, Bool.false_eq_true, if_false]
    | wp_step)
  exact hq
end
section
variable {prog : Program} {w : World} {A : Around} {E : Value → Shared → Prop} {R : Result → Shared → Prop} {h : Heap} {g : Array GenState} {d : Drawn} {t : Nat} {os : OsState}
variable {nm q : Str} {C N : Addr} {bs bm bmB : List Value} {hdct : Bool} {sn : List Str} {sub : List Value} {ab : Bool} {col : Option Bool} {dd : Option Addr} {k0 k1 k2 k3 k5 : Option Value} {B newId initId : String}
theorem kw_new (F : ExcBaseFacts B newId initId bmB) (hT : ∀ X : String, bm.contains (.type X) = bmB.contains (.type X)) {rest : List Value} {kw : List (Str × Value)}
    (hC : h.get? C = some (excClassObj nm q C N bs bm hdct sn sub ab col dd k0 k1 k2 k3 k5 newId)) (hrest : rest.length ≤ sizeLine)
    (hq : R (.ok (.ret (.ref (h.objs.size + 1)))) ⟨(h.push (kdv_tup rest)).push (excO C h.objs.size), g, d, t, os⟩) :
    codeAny (model prog w) A (.builtin newId ⟨.ref C :: rest, kw⟩) R ⟨h, g, d, t, os⟩ := by
  have ends := F.ends
  have inB : (Value.ref C :: bm).contains (.type B) = true := by rw [List.contains_cons, hT, F.hasB, Bool.or_true]
  have inA : (Value.ref C :: bm).contains (.type "AttributeError") = false := by rw [List.contains_cons, hT, F.noAttr]; rfl
  have inN : (Value.ref C :: bm).contains (.type "NameError") = false := by rw [List.contains_cons, hT, F.noName]; rfl
  refine codeAny_builtinAt F.entry ?_
  unfold Builtin.«BaseException.__new__»
  refine PySem.wpAt_bind ?_
  show PySem.wpAt _ _ _ (stack >>= _) _ _ _
  refine PySem.wpAt_bind (PySem.wpAt_stack fun p below => PySem.wpAt_of_wpAny ?_)
  wp_walk
  refine PySem.wpAt_of_wpAny ?_
  rw [F.owner]
  repeat (first
    | with_reducible refine wpAny_madeHere_exc F.canon hC ?_
    | with_reducible refine wpAny_loadPart_at hC ?_
    | (with_reducible refine wpAny_isSubtype_exc hC ?_; first | rw [inB] | rw [inA] | rw [inN])
    | wp_step)
  show R _ _
  rw [Heap.size_push]
  exact hq
theorem kw_type_call (F : ExcBaseFacts B newId initId bmB) (hT : ∀ X : String, bm.contains (.type X) = bmB.contains (.type X)) {rest : List Value} {kw : List (Str × Value)} {fI : Addr} {Q : Fin → Shared → Prop}
    (hC : h.get? C = some (excClassObj nm q C N bs bm hdct sn sub ab col dd k0 k1 k2 k3 k5 newId))
    (hi : Looks (model prog w) h (typeLookup (.ref C) "__init__") (some (.ref fI))) (hb : ∀ self, Looks (model prog w) h (bindSpecial (.ref fI) self) (.ref fI, [self])) (hrest : rest.length ≤ sizeLine)
    (hq : codeAny (model prog w) A (.call (.ref fI) ⟨.ref (h.objs.size + 1) :: rest, kw⟩)
      (fun r s' => match r with | .ok (.ret v) => v = .none ∧ Q (.done (.ret (.ref (h.objs.size + 1)))) s' | .ok _ => False | .error e => E e s')
      ⟨(h.push (kdv_tup rest)).push (excO C h.objs.size), g, d, t, os⟩) :
    wpAny (model prog w) A (Builtin.«type.__call__» ⟨.ref C :: rest, kw⟩) Q E ⟨h, g, d, t, os⟩ := by
  repeat (first
    | with_reducible refine wpAny_loadPart_at hC ?_
    | with_reducible refine wpAny_madeBy_exc hC ?_
    | wp_step)
  refine codeAny_call_builtin_code (Code.quiet_builtin _ F.quiet) (kw_check_new F hT hC ?_)
  refine kw_new F hT hC hrest ?_
  show wpAny _ _ _ _ _ _
  have kept : ∀ b o, h.get? b = some o → ((h.push (kdv_tup rest)).push (excO C h.objs.size)).get? b = some o := fun b o e => Heap.get?_push_of_some _ (Heap.get?_push_of_some _ e)
  have hC₁ := kept _ _ hC
  have hget : ((h.push (kdv_tup rest)).push (excO C h.objs.size)).get? (h.objs.size + 1) = some (excO C h.objs.size) := by heap_get
  have hcC : (Value.ref C :: bm).contains (.ref C) = true := by simp
  have i1 := hi.keeps kept
  have b1 := (hb (.ref (h.objs.size + 1))).keeps kept
  unfold isInstance
  repeat (first
    | with_reducible refine wpAny_loadPart_at hget ?_
    | (with_reducible refine wpAny_isSubtype_exc hC₁ ?_; rw [hcC])
    | wp_step)
  show wpAny _ _ (typeLookup (.ref C) _) _ _ _
  refine i1.at ?_
  refine wpAny_holding (wpAny_bind (b1.at ?_))
  refine wpAny_bind (wpAny_call (codeAny_mono hq fun r s' z => ?_))
  rcases r with e | (v | _ | _ | _) <;> first | exact z | exact z.elim | skip
  obtain ⟨rfl, z⟩ := z
  first
    | exact wpAny_pure (wpAny_pure z)
    | (wp_walk; exact z)
theorem kw_check_type (hC : h.get? C = some (excClassObj nm q C N bs bm hdct sn sub ab col dd k0 k1 k2 k3 k5 newId)) {M : Model} {rest : List Value} {kw : List (Str × Value)} {Q : Unit → Shared → Prop}
    (hq : Q () ⟨h, g, d, t, os⟩) : wpAny M A (checkBuiltinCall "type.__call__" ⟨.ref C :: rest, kw⟩) Q E ⟨h, g, d, t, os⟩ := by
  have f3 := tc_sub
  have hT : (⟨h, g, d, t, os⟩ : Shared).TypeIs (.ref C) "type" := ⟨_, hC, rfl⟩
  simp only [checkBuiltinCall, tc_kind, tc_split]
  repeat (any_goals (first | assumption | with_reducible refine wpAny_loadPart_at hC ?_ | with_reducible refine wpAny_onRaise ?_ | with_reducible refine wpAny_map ?_ | wp_step))
theorem kw_call (F : ExcBaseFacts B newId initId bmB) (hT : ∀ X : String, bm.contains (.type X) = bmB.contains (.type X)) {rest : List Value} {kw : List (Str × Value)} {fI : Addr}
    (hC : h.get? C = some (excClassObj nm q C N bs bm hdct sn sub ab col dd k0 k1 k2 k3 k5 newId))
    (hi : Looks (model prog w) h (typeLookup (.ref C) "__init__") (some (.ref fI))) (hb : ∀ self, Looks (model prog w) h (bindSpecial (.ref fI) self) (.ref fI, [self])) (hrest : rest.length ≤ sizeLine)
    (hq : codeAny (model prog w) (A.under (.builtin "type.__call__" ⟨.ref C :: rest, kw⟩)) (.call (.ref fI) ⟨.ref (h.objs.size + 1) :: rest, kw⟩) (InitBack (h.objs.size + 1) R)
      ⟨(h.push (kdv_tup rest)).push (excO C h.objs.size), g, d, t, os⟩) :
    codeAny (model prog w) A (.call (.ref C) ⟨rest, kw⟩) R ⟨h, g, d, t, os⟩ := by
  have f1 := tc_lookup
  have f2 := tc_bind (.ref C)
  have hTy : (⟨h, g, d, t, os⟩ : Shared).TypeIs (.ref C) "type" := ⟨_, hC, rfl⟩
  refine codeAny_of_tree ?_
  show wpAny _ _ (callAny (.ref C) _) _ _ _
  repeat (any_goals (first | assumption | with_reducible refine wpAny_loadPart_at hC ?_ | wp_step))
  refine ⟨rfl, ?_⟩
  refine codeAny_call_builtin_at (Code.quiet_builtin _ (by decide +kernel)) entry_typeCall (kw_check_type hC (kw_type_call F hT hC hi hb hrest ?_))
  refine codeAny_mono hq fun r s' z => ?_
  rcases r with e | (v | _ | _ | _) <;> exact z
end
end Og

set_option Elab.async false
set_option linter.all false
set_option maxRecDepth 100000
set_option maxHeartbeats 4000000
/-! An own exception (over ValueError, its __init__ a def of the text) as a value: made by place or by keywords, its fields read. -/
namespace Og
open PySem PySem.Spec PyProof.Rows L2

/-- how a def without defaults binds n values by place, and keywords ks -/
theorem kbn_of {K : PySem.W.Frag} {x qual : Str} {st : Stmt} {f : Addr} {fd : FuncData} {ps : List Str} (F : Fun K x qual st f fd) (n : Nat) (ks : List Str) (g : {α : Type} → List α → List α → List α)
    (hrel : ∀ {vs zs : List V} {us ws : List Value}, Vals vs us → Vals zs ws → Vals (g vs zs) (g us ws))
    (h : ∀ (kV doc pm : Value) (an : Option Addr) (cdv ct : Value) (us ws : List Value), us.length = n → ws.length = ks.length →
      bindArgs (PySem.W.fnOf x qual (defArgs st) (defBody st) (defScope st) .none kV doc pm an cdv ct) ⟨us, ks.zip ws⟩ = pure (ps.zip (g us ws))) :
    KBn K fd ps n ks (fun us ws => g us ws) (fun vs zs => g vs zs) := by
  obtain ⟨oc, od, kV, doc, pm, an, cdv, ct, osl, rfl, lk, hcd⟩ := F.ex
  exact ⟨fun s us ws _ l1 l2 => .of_eq (h kV doc pm an cdv ct us ws l1 l2), hrel⟩
/-- by place alone -/
theorem kbn_pos {K : PySem.W.Frag} {x qual : Str} {st : Stmt} {f : Addr} {fd : FuncData} {ps : List Str} (F : Fun K x qual st f fd) (n : Nat)
    (h : ∀ (kV doc pm : Value) (an : Option Addr) (cdv ct : Value) (us : List Value), us.length = n →
      bindArgs (PySem.W.fnOf x qual (defArgs st) (defBody st) (defScope st) .none kV doc pm an cdv ct) ⟨us, []⟩ = pure (ps.zip us)) :
    KBn K fd ps n [] (fun us _ => us) (fun vs _ => vs) :=
  kbn_of F n [] (fun us _ => us) (fun r _ => r) fun kV doc pm an cdv ct us ws l1 l2 => h kV doc pm an cdv ct us l1

section
variable {X : Cx} {CX : CXT} {k n : Nat} {fI C : Addr} {fd : FuncData} {ps ks : List Str} {sp : Sp} {E : XK} {g : List Value → List Value → List Value} {gV : List V → List V → List V}
/-- such an exception is made -/
theorem exc_run {pins : List (Addr × Obj)} {σ : L2.St} {H : Hp} {s : Shared} {Q : VK} {us ws : List Value} {vs zs : List V} (T : OexC X.K C) (iC : PySem.W.findIn X.K (.ref C) "__init__" = some (some (.ref fI))) (tI : PySem.W.typeIn X.K (.ref fI) = some (.type "function"))
    (G : FnOk X.prog X.w X.K X.mg X.base CX k fI fd ps sp) (hr : Room (k + 1) X.A) (hb : KBn X.K fd ps (n + 1) ks g gV) (hx : Passes CX X E) (I : Inv X pins σ H s) (r : Vals vs us) (rz : Vals zs ws) (l1 : vs.length = n) (l2 : zs.length = ks.length) (hn : n ≤ 1000)
    (h : ∀ a, H a = none → sp (gV (.ref a :: vs) zs) (upd H a (exo a C none)) (fun v H2 => v = .non ∧ Q (.ref a) H2) E) :
    wpAny (model X.prog X.w) X.A (call (.ref C) us (ks.zip ws)) (EP X pins σ Q) X.xe s := by
  obtain ⟨nm, q, N, bs, bm, sn, sub, ab, col, dd, k0, k1, k2, k3, k5, hC, hbm⟩ := T.cls
  obtain ⟨hp, ge, dr, tk, os⟩ := s
  have up : hp.objs.size ≤ hp.objs.size + 1 := Nat.le_succ _
  have free : H (hp.objs.size + 1) = none := I.hok.fresh up
  have hq := h (hp.objs.size + 1) free
  have kk : ∀ b o, hp.get? b = some o → ((hp.push (PySem.W.kdv_tup us)).push (PySem.HandSPX.excO C hp.objs.size)).get? b = some o := fun b o e => Heap.get?_push_of_some _ (Heap.get?_push_of_some _ e)
  have hget : ((hp.push (PySem.W.kdv_tup us)).push (PySem.HandSPX.excO C hp.objs.size)).get? (hp.objs.size + 1) = some (PySem.HandSPX.excO C hp.objs.size) := by heap_get
  have I2 : Inv X pins σ (upd H (hp.objs.size + 1) (exo (hp.objs.size + 1) C none)) ⟨(hp.push (PySem.W.kdv_tup us)).push (PySem.HandSPX.excO C hp.objs.size), ge, dr, tk, os⟩ :=
    Inv.laid (t' := tk) (o := exo (hp.objs.size + 1) C none) I kk up (exo_ok hget)
  have r1 : Vals (V.ref (hp.objs.size + 1) :: vs) (Value.ref (hp.objs.size + 1) :: us) := .cons rfl r
  have e1 : (Value.ref (hp.objs.size + 1) :: us).length = n + 1 := r1.length.symm.trans (congrArg Nat.succ l1)
  have small : us.length ≤ sizeLine := by
    rw [← Paired.length r, l1, sizeLine_eq]
    omega
  refine wpAny_call (kw_call F.excBase_ValueError (fun Y => PySem.HandSPX.refsVE_contains Y bm hbm) (I.kIn _ _ hC) (PySem.W.looks_findIn I.kIn iC) (fun self => PySem.W.bind_fn I.kIn self tI) small
    (codeAny_mono (G.run _ X.stack _ _ ⟨Value.ref (hp.objs.size + 1) :: us, ks.zip ws⟩ (g (Value.ref (hp.objs.size + 1) :: us) ws) _ _ E (hr.make C us (ks.zip ws))
      (I2.env0.make C us (ks.zip ws)) (hb.to _ _ ws I2.kIn e1 (rz.length.symm.trans l2)) (hb.rel r1 rz) hq) ?_))
  rintro (er | fl) s' hq'
  · exact hx pins σ _ _ er s' I2 hq'
  · cases fl with
    | ret u =>
      obtain ⟨v, H', I3, rv, ev, q3⟩ := I2.after hq'
      subst ev
      exact ⟨rv, ⟨V.ref (hp.objs.size + 1), H', I3, rfl, q3⟩⟩
    | next => exact False.elim hq'
    | brk => exact False.elim hq'
    | cont => exact False.elim hq'
end
/-- C(e, ..) | C(k = v, ..) as a value -/
def tExcV (C : Addr) (n m : Nat) (sp : Sp) (gV : List V → List V → List V) (E : XK) (t tk : TA) : TE := fun σ H Q => t σ H fun vs H1 => tk σ H1 fun zs H2 => vs.length = n ∧ zs.length = m ∧ ∀ a, H2 a = none →
  sp (gV (.ref a :: vs) zs) (upd H2 a (exo a C none)) (fun v H3 => v = .non ∧ Q (.ref a) H3) E
section
variable {X : Cx} {CX : CXT} {k n : Nat} {fI C : Addr} {fd : FuncData} {ps ks : List Str} {sp : Sp} {E : XK} {x : Str} {p pos : Pos} {e : Expr} {es : List Expr} {kws : List Keyword} {t tk : TA} {g : List Value → List Value → List Value} {gV : List V → List V → List V}
theorem pe_excP (T : OexC X.K C) (iC : PySem.W.findIn X.K (.ref C) "__init__" = some (some (.ref fI))) (tI : PySem.W.typeIn X.K (.ref fI) = some (.type "function"))
    (F : FnOk X.prog X.w X.K X.mg X.base CX k fI fd ps sp) (hr : Room (k + 1) X.A) (hb : KBn X.K fd ps (n + 1) [] g gV) (hn : n ≤ 1000) (hx : Passes CX X E) (hg : Gl X x) (hm : X.mg x = some (.ref C)) (ha : PA X (e :: es) t)
    (hdb : (x == ("__debug__" : Str)) = false := by decide) (he : starEach (e :: es) X.env = (false, eval e X.env) :: starEach es X.env := by rfl) (hpl : (backTo pos (starEach es X.env)).any (·.1) = false := by rfl) :
    PE X (.Call (.Name x p) (e :: es) [] pos) (tExcV C n 0 sp gV E t tNil) := by
  constructor
  intro pins s σ H Q I h
  refine wpAny_Call_Name_kw (ld_glob I hg hm (PySem.W.callWith_K (h₀ := X.base) I.ok.mod.kin T.kC (thn (ha.run pos pins s σ H _ I h) ?_) he hpl) hdb)
  rintro us s1 ⟨vs, H1, I1, r, l1, l2, q⟩
  exact ⟨I1.kIn, exc_run (ks := []) (ws := []) (zs := []) T iC tI F hr hb hx I1 r .nil l1 rfl hn q⟩
theorem pe_excK (T : OexC X.K C) (iC : PySem.W.findIn X.K (.ref C) "__init__" = some (some (.ref fI))) (tI : PySem.W.typeIn X.K (.ref fI) = some (.type "function"))
    (F : FnOk X.prog X.w X.K X.mg X.base CX k fI fd ps sp) (hr : Room (k + 1) X.A) (hb : KBn X.K fd ps 1 ks g gV) (hx : Passes CX X E) (hg : Gl X x) (hm : X.mg x = some (.ref C)) (hkw : PK X kws tk)
    (hall : (backToKw pos (keywordEach kws X.env)).all (·.1.isSome) = true := by rfl) (hks : (backToKw pos (keywordEach kws X.env)).filterMap (·.1) = ks := by rfl) (hdb : (x == ("__debug__" : Str)) = false := by decide)
    (hpl : ((backTo pos (starEach [] X.env)).any (·.1) || (backToKw pos (keywordEach kws X.env)).any (·.1.isNone)) = false := by rfl) :
    PE X (.Call (.Name x p) [] kws pos) (tExcV C 0 ks.length sp gV E tNil tk) := by
  constructor
  intro pins s σ H Q I h
  refine wpAny_Call_Name_kw (ld_glob I hg hm (PySem.W.callWith_KW0 (h₀ := X.base) I.ok.mod.kin T.kC hall (thn (hkw.run pos pins s σ H _ I h) ?_) hpl) hdb)
  rintro ws s2 ⟨zs, H2, I2, rz, l1, l2, q2⟩
  refine ⟨I2.kIn, ?_⟩
  rw [hks]
  exact exc_run (us := []) (vs := []) T iC tI F hr hb hx I2 .nil rz rfl l2 (Nat.zero_le _) q2
end
/-- e.f, e an exception that stands -/
def tExF (K : PySem.W.Frag) (f : Str) (te : TE) : TE := fun σ H Q => te σ H fun x H1 => ∃ (a C d : Addr) (fs : List (Str × V)) (v : V), x = .ref a ∧ XfC K C ∧ PySem.W.findIn K (.ref C) f = some none ∧
  H1 a = some (exo a C (some d)) ∧ H1 d = some (exd d fs) ∧ fs.lookup f = some v ∧ Q v H1
theorem pe_exF {X : Cx} {e : Expr} {f : Str} {te : TE} {pos : Pos} (he : PE X e te) (hb : attributeBase e f X.env (eval e X.env) = eval e X.env := by rfl) : PE X (.Attribute e f pos) (tExF X.K f te) := by
  constructor
  intro pins s σ H Q I h
  refine attr_of hb (thn (he.run pins s σ H _ I h) ?_)
  rintro u s1 ⟨x, H1, I1, rx, a, C, d, fs, v, rfl, T, hno, ea, ed, hl, q⟩
  obtain rfl : u = Value.ref a := rx
  obtain ⟨t1, ho⟩ := exo_at I1.hok ea
  obtain ⟨mA, hns, rel⟩ := exd_at I1.hok ed
  obtain ⟨od, hod, look⟩ := lookIn_ns hns
  obtain ⟨u, hu, ru⟩ := RelO.some_of (v := v) (o := mA f) (by rw [← hl]; exact rel f)
  have J : PySem.W.InstAt s1.heap a ({ cls := .ref C, dict := some d, data := .fields #[.ref t1, .none, .none, .none, .bool false, .none] } : Obj) C (some od) := ⟨ho, rfl, rfl, hod⟩
  exact HandSPX.exc_get I1.kIn J T.ga T.gg T.exC (PySem.W.findObj_own T.hdC hno rfl (by rw [look, hu])) (handed_of ru) ⟨v, H1, I1.tok _, ru, q⟩
end Og

set_option Elab.async false
set_option linter.all false
set_option maxRecDepth 100000
set_option maxHeartbeats 4000000
/-! isinstance of an own exception that stands as a value, with or without a dict. -/
namespace Og
open PySem PySem.W PySem.Spec PySem.Calls PyProof.Rows
section
variable {prog : Program} {w : World} {A : Around} {E : Value → Shared → Prop} {s : Shared} {K : Frag} {x D : Addr} {ox : Obj} {od : Option Obj}
theorem find_data {C : Addr} {name : Str} {a g : Value} (hc : (clsIn K C).isSome = true) (ha : findIn K (.ref C) name = some (some a)) (hg : specialIn K a "__get__" = some (some g)) (ht : takesIn K a = some true) :
    findObj K C od name = some (.bind g a) := by
  obtain ⟨cd, e⟩ := Option.isSome_iff_exists.mp hc
  unfold findObj
  rw [e, Option.bind_some, ha, Option.bind_some]
  simp [hg, ht]
/-- x.__class__, x an exception -/
theorem cls_of_exc {Q : Option Value → Shared → Prop} (T : L2.ExcC K D) (X : K.In s.heap) (I : InstAt s.heap x ox D od) (h : Q (some (.ref D)) { s with toks := s.toks + 1 }) :
    wpAny (model prog w) A (getAttr? (.ref x) "__class__") Q E s := by
  have hf : findObj K D od "__class__" = some (.bind (.builtin "getset_descriptor.__get__") (.builtin "object.__class__")) :=
    find_data (by obtain ⟨cd, hc, _⟩ := any_some T.hd; rw [hc]; rfl) T.ha T.hn T.ht
  obtain ⟨hp, g, d, t, os⟩ := s
  have a0 := I.type (M := model prog w)
  have a1 := looks_findIn (M := model prog w) X T.hg
  have a2 := looks_findIn (M := model prog w) X T.hk
  have a3 := looks_find (M := model prog w) X I hf
  have sub : Looks (model prog w) hp (isInstance (.ref x) (.type "BaseException")) true := a0.andThen (looks_subIn X T.hs)
  have off : (Value.builtin "BaseException.__getattribute__" == Value.builtin "object.__getattribute__") = false := by decide +kernel
  have off1 : (onTheHeap (Value.ref D) && Value.builtin "BaseException.__getattribute__" == Value.builtin "object.__getattribute__") = false := by rw [off]; rfl
  unfold getAttr? getAttrBy? getAttrBy
  refine wpAny_bind (wpAny_mkText (wpAny_bind (wpAny_attempt (wpAny_holding (wpAny_bind (a0.at (wpAny_bind (a1.at ?_))))))))
  show wpAny _ _ (if (onTheHeap (Value.ref D) && Value.builtin "BaseException.__getattribute__" == Value.builtin "object.__getattribute__") = true then _ else _) _ _ _
  rw [off1, if_neg Bool.false_ne_true]
  unfold getAttrByItsOwn hookBefore
  refine wpAny_bind ?_
  rw [if_pos (show onTheHeap (Value.ref D) = true from rfl)]
  refine a2.at (wpAny_bind (wpAny_attempt (wpAny_holding ?_)))
  unfold callGetattribute
  rw [show (false && onTheHeap (Value.builtin "BaseException.__getattribute__")) = false from rfl, if_neg Bool.false_ne_true]
  unfold boundAndCalled
  rw [PySem.F.excAttr_ValueError.ga.bind (.ref x)]
  refine wpAny_bind (wpAny_pure ?_)
  show wpAny _ _ (call (.builtin "BaseException.__getattribute__") [.ref x, .str "__class__" t]) _ _ _
  refine wpAny_call (codeAny_call_builtin PySem.F.excAttr_ValueError.ga.plain PySem.F.entry_bexc_ga ?_)
  refine @check_slot (model prog w) _ _ ⟨hp, g, d, t + 1, os⟩ "BaseException.__getattribute__" "BaseException" "__getattribute__" (.ref x) [.str "__class__" t] [] _ (by decide +kernel) (by decide +kernel) sub (PySem.F.args_bexc_ga (.ref x) (.str "__class__" t)) ?_
  unfold Builtin.«object.__getattribute__»
  refine wpAny_bind (wpAny_of_eq (a := ((Value.ref x : Value), [Value.str "__class__" t])) (by first | rfl | (simp only [slotArgs]; rfl)) ?_)
  refine wpAny_bind (wpAny_pure (wpAny_bind (a0.at (wpAny_bind (a3.at ?_)))))
  show wpAny _ _ (holding [Value.builtin "object.__class__"] (call (.builtin "getset_descriptor.__get__") [.builtin "object.__class__", .ref x, .ref D]) >>= ret) _ _ _
  refine wpAny_bind (wpAny_holding (wpAny_call (class_get (s := ⟨hp, g, d, t + 1, os⟩) (ox := ox) (od := od) X I T.hm ?_)))
  refine wpAny_pure ?_
  show wpAny _ _ (handedOut (.ref D)) _ _ _
  rw [handedOut_of (v := .ref D) rfl]
  first
    | exact wpAny_pure (wpAny_pure h)
    | exact wpAny_pure h
    | exact wpAny_pure (wpAny_bind (wpAny_pure (wpAny_pure h)))
theorem kitx_exc (T : L2.ExcC K D) : KitX K (.ref x) (.ref D) (fun h => InstAt h x ox D od) where
  ty := fun _ _ _ I => I.type
  it := fun _ _ X _ => by
    obtain ⟨cdD, hcD, _⟩ := any_some T.hd
    unfold clsIn at hcD
    split at hcD
    · rename_i c' d' cd' sl' ho
      intro A' Q' E' s' k q
      unfold isType loadHead
      exact wpAny_bind (wpAny_loadPart (k _ _ (X _ _ ho)) (wpAny_pure q))
    · cases hcD
  ne := fun h tp dd its n sl X htp => by
    obtain ⟨cdD, hcD, _⟩ := any_some T.hd
    refine Bool.eq_false_iff.mpr fun q => ?_
    cases Value.ref.inj (beq_iff_eq.mp q)
    unfold clsIn at hcD
    split at hcD
    · rename_i c' d' cd' sl' ho
      have z := (X _ _ ho).symm.trans htp
      cases z
    · cases hcD
  ca := fun X I k => cls_of_exc T X I k
end
end Og
namespace Og
open PySem PySem.Spec PyProof.Rows L2
/-- isinstance(e, c), e such an exception -/
def rIsV (K : PySem.W.Frag) : List V → Hp → VK → Prop := fun xs H Q => ∃ (a D : Addr) (d : Option Addr) (c : V) (cv : Value) (b : Bool), xs = [.ref a, c] ∧ ExcC K D ∧ H a = some (exo a D d) ∧ (∀ dd, d = some dd → ∃ fs, H dd = some (exd dd fs)) ∧
  (∀ u, RelV c u → u = cv) ∧ PySem.W.kitOne K (.ref D) cv = some b ∧ Q (.bl b) H
theorem call_isV {X : Cx} : CallR X (.builtin "isinstance") (rIsV X.K) := by
  intro pins s σ H xs us Q I r h
  obtain ⟨a, D, d, c, cv, b, rfl, T, ea, ed, hcv, e, q⟩ := h
  cases r with
  | cons rx rr =>
    cases rr with
    | cons rt rr =>
      cases rr
      cases rx
      cases hcv _ rt
      obtain ⟨t1, ho⟩ := exo_at I.hok ea
      obtain ⟨od, J⟩ : ∃ od, PySem.W.InstAt s.heap a ({ cls := .ref D, dict := d, data := .fields #[.ref t1, .none, .none, .none, .bool false, .none] } : Obj) D od := by
        cases d with
        | none => exact ⟨none, ho, rfl, rfl, trivial⟩
        | some dd =>
          obtain ⟨fs, z⟩ := ed dd rfl
          obtain ⟨mA, hns, rel⟩ := exd_at I.hok z
          obtain ⟨od, hod, _⟩ := lookIn_ns hns
          exact ⟨some od, ho, rfl, rfl, hod⟩
      exact PySem.W.kia_one (kitx_exc T) I.kIn J e (fun z => nomatch z) fun tk => ⟨.bl b, H, I.kept (t' := tk) fun _ _ z => z, rfl, q⟩
end Og

set_option Elab.async false
set_option linter.all false
set_option maxRecDepth 100000
set_option maxHeartbeats 4000000
/-! C() of an own exception class without an __init__ of its own; isinstance of the exception that a suite holds, where it has a dict. -/
namespace Og
open PySem PySem.Spec PyProof.Rows L2
theorem pe_exc0 {X : Cx} {C : Addr} {x : Str} {p pos : Pos} (q : PySem.W.excIn X.K C [.type "ValueError", .type "Exception", .type "BaseException", .type "object"] "ValueError.__new__" = true)
    (gC : X.mg x = some (.ref C)) (kC : PySem.W.keepIn X.K (.ref C) = true) (hg : Gl X x) (hdb : (x == ("__debug__" : Str)) = false := by decide) :
    PE X (.Call (.Name x p) [] [] pos) (fun _ H Q => ∀ a, H a = none → Q (.ref a) (upd H a (exo a C none))) := by
  constructor
  intro pins s σ H Q I h
  refine wpAny_Call_Name_kw (ld_glob I hg gC (PySem.W.callWith_K0 I.kIn kC ?_) hdb)
  obtain ⟨bm, N, nm, qn, bs, hdct, sn, sub, ab, col, dd, k0, k1, k2, k3, k5, mN, hC, hN, hni, T⟩ := exc_obj I.kIn q
  refine wpAny_call_exc_subT F.excBase_ValueError T hC hN hni ?_ (Nat.zero_le _)
  intro h' a hm
  have hn : H a = none := I.hok.gone hm.new
  obtain ⟨t, ht, _, _⟩ := hm.there
  exact ⟨.ref a, upd H a (exo a C none), I.laidN hm.keeps hm.new hn (exo_ok ht), rfl, h a hn⟩
/-- isinstance(e, c), e what the suite holds -/
def rIsS (K : PySem.W.Frag) (a : Addr) (cls : Value) (d : Option Addr) : List V → Hp → VK → Prop := fun xs H Q => ∃ (D : Addr) (c : V) (cv : Value) (b : Bool), xs = [.ref a, c] ∧ cls = .ref D ∧ ExcC K D ∧ (∀ dd, d = some dd → ∃ fs, H dd = some (.xd fs)) ∧ (∀ u, RelV c u → u = cv) ∧ PySem.W.kitOne K (.ref D) cv = some b ∧ Q (.bl b) H
theorem call_isS {X : Cx} {a : Addr} {cls : Value} {d : Option Addr} {oe : Obj} {pn : List (Addr × Obj)} (hz : Zc cls d oe) (hf : ∃ vs, oe.data = .fields vs) : CallR (X.suite a ((a, oe) :: pn)) (.builtin "isinstance") (rIsS X.K a cls d) := by
  intro pins s σ H xs us Q I r h
  obtain ⟨D, c, cv, b, rfl, rfl, T, ed, hcv, e, q⟩ := h
  cases r with
  | cons rx rr =>
    cases rr with
    | cons rt rr =>
      cases rr
      cases rx
      cases hcv _ rt
      obtain ⟨hget, _⟩ := I.pin (a, oe) (List.mem_append.mpr (.inl List.mem_cons_self))
      obtain ⟨vs, hv⟩ := hf
      obtain ⟨od, J⟩ : ∃ od, PySem.W.InstAt s.heap a oe D od := by
        cases d with
        | none => exact ⟨none, hget, hz.1, by unfold PySem.W.notCls; rw [hv] <;> rfl, by rw [hz.2]; trivial⟩
        | some dd =>
          obtain ⟨fs, z⟩ := ed dd rfl
          obtain ⟨mA, hns, rel⟩ := (show ObjOk X.prog X.w H s.heap dd (.xd fs) from I.hok dd _ z)
          obtain ⟨od, hod, _⟩ := lookIn_ns hns
          exact ⟨some od, hget, hz.1, by unfold PySem.W.notCls; rw [hv] <;> rfl, by rw [hz.2]; exact hod⟩
      exact PySem.W.kia_one (kitx_exc T) I.kIn J e (fun z => nomatch z) fun tk => ⟨.bl b, H, I.kept (t' := tk) fun _ _ z => z, rfl, q⟩
end Og

set_option Elab.async false
set_option linter.all false
set_option maxRecDepth 100000
set_option maxHeartbeats 8000000
namespace Og
open PySem L2
abbrev sOwn : Stmt := top 23
/-- the classes by their places in the list that _law_own looks through -/
structure ErrTxt (K : PySem.W.Frag) (mg : Str → Option Value) (C : Nat → Addr) : Prop where
  isi : mg "isinstance" = none
  enum : mg "enumerate" = none
  g0 : mg "BadBook" = some (.ref (C 0))
  g1 : mg "Misread" = some (.ref (C 1))
  g2 : mg "BadRatio" = some (.ref (C 2))
  g3 : mg "BadRow" = some (.ref (C 3))
  g4 : mg "BadLot" = some (.ref (C 4))
  g5 : mg "BadName" = some (.ref (C 5))
  g6 : mg "NoName" = some (.ref (C 6))
  g7 : mg "TakenName" = some (.ref (C 7))
  g8 : mg "BadNumber" = some (.ref (C 8))
  g9 : mg "BadValue" = some (.ref (C 9))
  g10 : mg "BadLine" = some (.ref (C 10))
  g11 : mg "Unlike" = some (.ref (C 11))
  g12 : mg "TooMany" = some (.ref (C 12))
  g13 : mg "NotKept" = some (.ref (C 13))
  g14 : mg "NothingToUndo" = some (.ref (C 14))
  g15 : mg "NothingToRedo" = some (.ref (C 15))
/-- what an exception's class is, by isinstance -/
structure IsTab (K : PySem.W.Frag) (C : Nat → Addr) (D : Addr) (b : Nat → Bool) : Prop where
  c : ExcC K D
  tab : ∀ j, j < 16 → PySem.W.kitOne K (.ref D) (.ref (C j)) = some (b j)
/-- an exception object, its dict with it -/
def ExAt (H : Hp) (a D : Addr) : Prop := ∃ d : Option Addr, H a = some (exo a D d) ∧ ∀ dd, d = some dd → ∃ fs, H dd = some (exd dd fs)
theorem ExAt.same {H H' : Hp} {a D : Addr} (e : ExAt H a D) (s : Same H H') : ExAt H' a D := by
  obtain ⟨d, h, k⟩ := e
  exact ⟨d, s _ _ h, fun dd z => let ⟨fs, q⟩ := k dd z; ⟨fs, s _ _ q⟩⟩
def spOwn (K : PySem.W.Frag) (C : Nat → Addr) : Sp := fun vs H Q _ => ∃ (a D : Addr) (b : Nat → Bool), vs = [.ref a] ∧ ExAt H a D ∧ IsTab K C D b ∧
  ∀ q H', H q = none → Same H H' → H' q = some (.lst (((List.range 16).filter b).map fun j => V.int (j : Nat))) → Q (.ref q) H'
section
variable {P : Program} {w : World} {K : PySem.W.Frag} {mg : Str → Option Value} {base : Heap}
theorem scOwn : FnScope ["error", "at", "hit"] ["error"] (defScope sOwn) := ⟨rfl, rfl, rfl, by decide +kernel, rfl, by decide +kernel, by decide +kernel⟩
theorem ok_own {f : Addr} {fd : FuncData} {C : Nat → Addr} (F : Fun K "_law_own" "_law_own" sOwn f fd) (T : ErrTxt K mg C) : FnOk P w K mg base CX0 1 f fd ["error"] (spOwn K C) := by
  refine F.ok scOwn (fun vs H Q E h => ?_) (fun cdv A outer s H vs Q E hr h => ?_)
  · obtain ⟨a, D, b, rfl, _⟩ := h
    rfl
  · obtain ⟨a, D, b, rfl, ⟨d, ha, hd⟩, B, k⟩ := h
    refine ⟨_, pss_one (ps_ret (pe_lc (own := [("at", 1), ("hit", 2)]) (g := gTup K 2 (gCons (gName 1) (gCons (gName 2) gNil))) (tt := tB (tVar 2)) (by rfl) scOwn.nd (pi_enum (by rfl) T.enum (pa_cons (pe_lst
        (pa_cons (pe_callB call_isV (by rfl) T.isi (by decide +kernel) (pa_cons (pv 0) (pa_cons (pe_glob (v := .ref (C 0)) rfl T.g0 rfl) pa_nil)))
        (pa_cons (pe_callB call_isV (by rfl) T.isi (by decide +kernel) (pa_cons (pv 0) (pa_cons (pe_glob (v := .ref (C 1)) rfl T.g1 rfl) pa_nil)))
        (pa_cons (pe_callB call_isV (by rfl) T.isi (by decide +kernel) (pa_cons (pv 0) (pa_cons (pe_glob (v := .ref (C 2)) rfl T.g2 rfl) pa_nil)))
        (pa_cons (pe_callB call_isV (by rfl) T.isi (by decide +kernel) (pa_cons (pv 0) (pa_cons (pe_glob (v := .ref (C 3)) rfl T.g3 rfl) pa_nil)))
        (pa_cons (pe_callB call_isV (by rfl) T.isi (by decide +kernel) (pa_cons (pv 0) (pa_cons (pe_glob (v := .ref (C 4)) rfl T.g4 rfl) pa_nil)))
        (pa_cons (pe_callB call_isV (by rfl) T.isi (by decide +kernel) (pa_cons (pv 0) (pa_cons (pe_glob (v := .ref (C 5)) rfl T.g5 rfl) pa_nil)))
        (pa_cons (pe_callB call_isV (by rfl) T.isi (by decide +kernel) (pa_cons (pv 0) (pa_cons (pe_glob (v := .ref (C 6)) rfl T.g6 rfl) pa_nil)))
        (pa_cons (pe_callB call_isV (by rfl) T.isi (by decide +kernel) (pa_cons (pv 0) (pa_cons (pe_glob (v := .ref (C 7)) rfl T.g7 rfl) pa_nil)))
        (pa_cons (pe_callB call_isV (by rfl) T.isi (by decide +kernel) (pa_cons (pv 0) (pa_cons (pe_glob (v := .ref (C 8)) rfl T.g8 rfl) pa_nil)))
        (pa_cons (pe_callB call_isV (by rfl) T.isi (by decide +kernel) (pa_cons (pv 0) (pa_cons (pe_glob (v := .ref (C 9)) rfl T.g9 rfl) pa_nil)))
        (pa_cons (pe_callB call_isV (by rfl) T.isi (by decide +kernel) (pa_cons (pv 0) (pa_cons (pe_glob (v := .ref (C 10)) rfl T.g10 rfl) pa_nil)))
        (pa_cons (pe_callB call_isV (by rfl) T.isi (by decide +kernel) (pa_cons (pv 0) (pa_cons (pe_glob (v := .ref (C 11)) rfl T.g11 rfl) pa_nil)))
        (pa_cons (pe_callB call_isV (by rfl) T.isi (by decide +kernel) (pa_cons (pv 0) (pa_cons (pe_glob (v := .ref (C 12)) rfl T.g12 rfl) pa_nil)))
        (pa_cons (pe_callB call_isV (by rfl) T.isi (by decide +kernel) (pa_cons (pv 0) (pa_cons (pe_glob (v := .ref (C 13)) rfl T.g13 rfl) pa_nil)))
        (pa_cons (pe_callB call_isV (by rfl) T.isi (by decide +kernel) (pa_cons (pv 0) (pa_cons (pe_glob (v := .ref (C 14)) rfl T.g14 rfl) pa_nil)))
        (pa_cons (pe_callB call_isV (by rfl) T.isi (by decide +kernel) (pa_cons (pv 0) (pa_cons (pe_glob (v := .ref (C 15)) rfl T.g15 rfl) pa_nil)))
        pa_nil))))))))))))))))) pa_nil))
      (blkOk_by (own := [("at", 1), ("hit", 2)]) (N := ["error", "at", "hit"]) (sc := defScope sOwn) (by decide +kernel))
      (fun _ _ _ _ _ => by exact pg_tup rfl (by exact pgs_cons (by exact pg_name (i := 1) scOwn.nd rfl (Or.inl rfl)) (by exact pgs_cons (by exact pg_name (i := 2) scOwn.nd rfl (Or.inl rfl)) pgs_nil)))
      (fun _ _ _ _ _ => pts_one (pt_val (pv 2))) (fun _ _ _ _ _ => pv 1))), ?_⟩
    refine ⟨_, rfl, a, D, d, .ref (C 0), .ref (C 0), b 0, rfl, B.c, ha, hd, fun u r => r, B.tab 0 (by decide),
      _, rfl, a, D, d, .ref (C 1), .ref (C 1), b 1, rfl, B.c, ha, hd, fun u r => r, B.tab 1 (by decide),
      _, rfl, a, D, d, .ref (C 2), .ref (C 2), b 2, rfl, B.c, ha, hd, fun u r => r, B.tab 2 (by decide),
      _, rfl, a, D, d, .ref (C 3), .ref (C 3), b 3, rfl, B.c, ha, hd, fun u r => r, B.tab 3 (by decide),
      _, rfl, a, D, d, .ref (C 4), .ref (C 4), b 4, rfl, B.c, ha, hd, fun u r => r, B.tab 4 (by decide),
      _, rfl, a, D, d, .ref (C 5), .ref (C 5), b 5, rfl, B.c, ha, hd, fun u r => r, B.tab 5 (by decide),
      _, rfl, a, D, d, .ref (C 6), .ref (C 6), b 6, rfl, B.c, ha, hd, fun u r => r, B.tab 6 (by decide),
      _, rfl, a, D, d, .ref (C 7), .ref (C 7), b 7, rfl, B.c, ha, hd, fun u r => r, B.tab 7 (by decide),
      _, rfl, a, D, d, .ref (C 8), .ref (C 8), b 8, rfl, B.c, ha, hd, fun u r => r, B.tab 8 (by decide),
      _, rfl, a, D, d, .ref (C 9), .ref (C 9), b 9, rfl, B.c, ha, hd, fun u r => r, B.tab 9 (by decide),
      _, rfl, a, D, d, .ref (C 10), .ref (C 10), b 10, rfl, B.c, ha, hd, fun u r => r, B.tab 10 (by decide),
      _, rfl, a, D, d, .ref (C 11), .ref (C 11), b 11, rfl, B.c, ha, hd, fun u r => r, B.tab 11 (by decide),
      _, rfl, a, D, d, .ref (C 12), .ref (C 12), b 12, rfl, B.c, ha, hd, fun u r => r, B.tab 12 (by decide),
      _, rfl, a, D, d, .ref (C 13), .ref (C 13), b 13, rfl, B.c, ha, hd, fun u r => r, B.tab 13 (by decide),
      _, rfl, a, D, d, .ref (C 14), .ref (C 14), b 14, rfl, B.c, ha, hd, fun u r => r, B.tab 14 (by decide),
      _, rfl, a, D, d, .ref (C 15), .ref (C 15), b 15, rfl, B.c, ha, hd, fun u r => r, B.tab 15 (by decide),
      (by show 16 ≤ sizeLine; decide), fun l hl => ?_⟩
    have el : ([.bl (b 0), .bl (b 1), .bl (b 2), .bl (b 3), .bl (b 4), .bl (b 5), .bl (b 6), .bl (b 7), .bl (b 8), .bl (b 9), .bl (b 10), .bl (b 11), .bl (b 12), .bl (b 13), .bl (b 14), .bl (b 15)] : List V) = (List.range 16).map fun j => V.bl (b j) := rfl
    rw [el]
    have hl16 : ((List.range 16).map fun j => V.bl (b j)).length = 16 := by rw [List.length_map, List.length_range]
    have sl : Same H (upd H l (.lst ((List.range 16).map fun j => V.bl (b j)))) := Same.new hl
    refine ⟨l, _, rfl, SqL.of upd_same, fun D' hD => lc_it walk_enum (fun i H3 => H3 D' = some (.lst (((List.range i).filter b).map fun j => V.int (j : Nat))) ∧ Same (upd H l (.lst ((List.range 16).map fun j => V.bl (b j)))) H3)
      ⟨upd_same, Same.new hD⟩ (fun i H3 _ h3 => SqL.of (h3.2 _ _ upd_same)) ?_ ?_⟩
    · rintro i x H3 H4 hi ⟨h3, s3⟩ ⟨t, x', y', rfl, ht, rfl, e1, e2⟩
      rw [hl16] at hi
      have ex : x' = .int (i : Nat) := (Option.some.inj e1).symm
      have ey : y' = .bl (b i) := by
        have e3 : ((List.range 16).map fun j => V.bl (b j))[i]? = some y' := e2
        rw [List.getElem?_map, List.getElem?_range hi] at e3
        exact (Option.some.inj e3).symm
      subst ex ey
      have nDt : D' ≠ t := ne_of_none h3 ht
      refine ⟨t, _, rfl, SqT.of upd_same, rfl, _, _, rfl, _, _, rfl, rfl, rfl, _, rfl, _, rfl, ite2 (fun hb => ?_) (fun hb => ?_)⟩
      · refine ⟨_, rfl, _, by rw [upd_ne nDt]; exact h3, ?_, ?_, ?_⟩
        · refine Nat.lt_of_le_of_lt (m := 16) ?_ (by show 16 < sizeLine; decide)
          rw [List.length_map]
          exact Nat.le_trans (List.length_filter_le _ _) (by rw [List.length_range]; omega)
        · rw [upd_same, List.range_succ, List.filter_append, List.map_append]
          simp [hb]
        · have s4 : Same H3 (upd H3 t (.tup [V.int (i : Nat), V.bl (b i)])) := Same.new ht
          intro c o e
          have ne : c ≠ D' := fun z => by
            rw [z, hD] at e
            cases e
          rw [upd_ne ne]
          exact s4 _ _ (s3 _ _ e)
      · refine ⟨?_, s3.trans (Same.new ht)⟩
        rw [upd_ne nDt, h3, List.range_succ, List.filter_append, List.map_append]
        simp [hb]
    · rintro H3 ⟨h3, s3⟩
      rw [hl16] at h3
      have dl : H D' = none := sl.free hD
      exact k D' H3 dl (sl.trans s3) h3
end
end Og

set_option Elab.async false
set_option linter.all false
set_option maxRecDepth 100000
set_option maxHeartbeats 4000000
/-! An error class whose __init__ keeps its arguments under the names fs: how it is made as a value, by place or by keywords told backwards, and how it is raised. -/
namespace Og
open PySem PySem.Spec PyProof.Rows L2
theorem vals_rev {xs : List V} {us : List Value} (r : Vals xs us) : Vals xs.reverse us.reverse := by
  induction r with
  | nil => exact .nil
  | cons h _ ih =>
    rw [List.reverse_cons, List.reverse_cons]
    exact ih.append (.cons h .nil)
/-- __init__ -/
def spIni (C : Addr) (fs : List Str) : Sp := fun vs H Q _ => ∃ (a : Addr) (ws : List V), vs = .ref a :: ws ∧ ws.length = fs.length ∧ H a = some (exo a C none) ∧
  ∀ d H', H d = none → d ≠ a → H' a = some (exo a C (some d)) → H' d = some (exd d (fs.zip ws).reverse) → But a H H' → Q .non H'
structure IniTxt (K : PySem.W.Frag) (C : Addr) (fs : List Str) : Prop where
  o : OexC K C
  xf : XfC K C
  no : ∀ f ∈ fs, PySem.W.findIn K (.ref C) f = some none
structure ErrOk (P : Program) (w : World) (K : PySem.W.Frag) (mg : Str → Option Value) (base : Heap) (x : Str) (C : Addr) (fs : List Str) : Prop where
  t : IniTxt K C fs
  g : mg x = some (.ref C)
  small : fs.length ≤ 900
  ex : ∃ (fI : Addr) (fd : FuncData), PySem.W.findIn K (.ref C) "__init__" = some (some (.ref fI)) ∧ PySem.W.typeIn K (.ref fI) = some (.type "function") ∧ FnOk P w K mg base CX0 1 fI fd ("self" :: fs) (spIni C fs) ∧
    KBn K fd ("self" :: fs) (fs.length + 1) [] (fun us _ => us) (fun vs _ => vs) ∧ KBn K fd ("self" :: fs) 1 fs.reverse (fun us ws => us ++ ws.reverse) (fun vs zs => vs ++ zs.reverse) ∧ Binds K fd ("self" :: fs) []
/-- what stands behind the making of such an error -/
def ErrMade (C : Addr) (fs : List Str) (vs : List V) (H1 : Hp) (Q : VK) : Prop := vs.length = fs.length ∧
  ∀ a d H2, H1 a = none → H1 d = none → d ≠ a → H2 a = some (exo a C (some d)) → H2 d = some (exd d (fs.zip vs).reverse) → Same H1 H2 → Q (.ref a) H2
def tErrP (C : Addr) (fs : List Str) (t : TA) : TE := fun σ H Q => t σ H fun vs H1 => ErrMade C fs vs H1 Q
def tErrK (C : Addr) (fs : List Str) (t : TA) : TE := fun σ H Q => t σ H fun zs H1 => ErrMade C fs zs.reverse H1 Q
theorem ErrMade.ini {C : Addr} {fs : List Str} {vs : List V} {H1 : Hp} {Q : VK} {a : Addr} {E : XK} (m : ErrMade C fs vs H1 Q) (ha : H1 a = none) :
    spIni C fs (.ref a :: vs) (upd H1 a (exo a C none)) (fun v H3 => v = .non ∧ Q (.ref a) H3) E := by
  refine ⟨a, vs, rfl, m.1, upd_same, fun d H' hd nd h1 h2 bt => ⟨rfl, ?_⟩⟩
  rw [upd_ne nd] at hd
  refine m.2 a d H' ha hd nd h1 h2 fun b o e => ?_
  have ne : b ≠ a := ne_of_none e ha
  exact bt b o (by rw [upd_ne ne]; exact e) ne
section
variable {X : Cx} {C : Addr} {fs : List Str} {x : Str} {p pos : Pos} {e : Expr} {es : List Expr} {kws : List Keyword} {t tk : TA}
theorem pe_errP (T : ErrOk X.prog X.w X.K X.mg X.base x C fs) (hr : Room 2 X.A) (ha : PA X (e :: es) t) (hg : Gl X x := by rfl)
    (hdb : (x == ("__debug__" : Str)) = false := by decide) (he : starEach (e :: es) X.env = (false, eval e X.env) :: starEach es X.env := by rfl) (hpl : (backTo pos (starEach es X.env)).any (·.1) = false := by rfl) :
    PE X (.Call (.Name x p) (e :: es) [] pos) (tErrP C fs t) := by
  obtain ⟨fI, fd, iC, tI, F, hb, _⟩ := T.ex
  constructor
  intro pins s σ H Q I h
  refine wpAny_Call_Name_kw (ld_glob I hg T.g (PySem.W.callWith_K (h₀ := X.base) I.ok.mod.kin T.t.o.kC (thn (ha.run pos pins s σ H _ I h) ?_) he hpl) hdb)
  rintro us s1 ⟨vs, H1, I1, r, m⟩
  exact ⟨I1.kIn, exc_run (ks := []) (ws := []) (zs := []) T.t.o iC tI F hr hb pass0 I1 r .nil m.1 rfl (Nat.le_trans T.small (by decide)) fun a ha => m.ini ha⟩
theorem pe_errK (T : ErrOk X.prog X.w X.K X.mg X.base x C fs) (hr : Room 2 X.A) (hkw : PK X kws tk) (hg : Gl X x := by rfl)
    (hall : (backToKw pos (keywordEach kws X.env)).all (·.1.isSome) = true := by rfl) (hks : (backToKw pos (keywordEach kws X.env)).filterMap (·.1) = fs.reverse := by rfl) (hdb : (x == ("__debug__" : Str)) = false := by decide)
    (hpl : ((backTo pos (starEach [] X.env)).any (·.1) || (backToKw pos (keywordEach kws X.env)).any (·.1.isNone)) = false := by rfl) :
    PE X (.Call (.Name x p) [] kws pos) (tErrK C fs tk) := by
  obtain ⟨fI, fd, iC, tI, F, _, hb, _⟩ := T.ex
  constructor
  intro pins s σ H Q I h
  refine wpAny_Call_Name_kw (ld_glob I hg T.g (PySem.W.callWith_KW0 (h₀ := X.base) I.ok.mod.kin T.t.o.kC hall (thn (hkw.run pos pins s σ H _ I h) ?_) hpl) hdb)
  rintro ws s2 ⟨zs, H2, I2, rz, m⟩
  have lz : zs.length = fs.reverse.length := by
    rw [List.length_reverse, ← m.1, List.length_reverse]
  refine ⟨I2.kIn, ?_⟩
  rw [hks]
  exact exc_run (us := []) (vs := []) (n := 0) T.t.o iC tI F hr hb pass0 I2 .nil rz rfl lz (Nat.zero_le _) fun a ha => m.ini ha
/-- .. raised: let go, its dict stands -/
def tErrMk (C : Addr) (fs : List Str) (t : TA) : L2.St → Hp → XK → Prop := fun σ H Q => t σ H fun vs H1 => vs.length = fs.length ∧ ∀ d H2, H1 d = none → H2 d = some (.xd (fs.zip vs).reverse) → Same H1 H2 → Q (.ref C) (some d) H2
theorem pmk_err (T : ErrOk X.prog X.w X.K X.mg X.base x C fs) (hr : Room 2 X.A) (ha : PA X (e :: es) t) (hg : Gl X x := by rfl)
    (hdb : (x == ("__debug__" : Str)) = false := by decide) (he : starEach (e :: es) X.env = (false, eval e X.env) :: starEach es X.env := by rfl) (hpl : (backTo pos (starEach es X.env)).any (·.1) = false := by rfl) :
    PMk X (.Call (.Name x p) (e :: es) [] pos) (tErrMk C fs t) := by
  obtain ⟨fI, fd, iC, tI, F, _, _, hb⟩ := T.ex
  -- the arguments' reading, made monotone
  have ha2 : PA X (e :: es) (fun σ H R => ∃ R0 : List V → Hp → Prop, t σ H R0 ∧ ∀ vs H1, R0 vs H1 → R vs H1) :=
    ⟨fun pos pins s σ H R I ⟨R0, h, m⟩ => thn (ha.run pos pins s σ H R0 I h) fun us s1 ⟨vs, H1, I1, r, q⟩ => ⟨vs, H1, I1, r, m vs H1 q⟩⟩
  intro pins s σ H Q I h
  refine pmk_oex T.t.o iC tI F hr hb .nil pass0 hg T.g ha2 hdb he hpl pins s σ H Q I ⟨_, h, ?_⟩
  rintro vs H1 ⟨l, q⟩
  refine ⟨by have := T.small; omega, fun a ha => ⟨a, vs ++ [], rfl, by rw [List.append_nil]; exact l, upd_same, ?_⟩⟩
  intro d H' hd nd h1 h2 bt
  rw [List.append_nil] at h2
  rw [upd_ne nd] at hd
  refine ⟨rfl, d, _, h1, h2, hd, q d _ hd upd_same ?_⟩
  intro b o e
  have na : b ≠ a := ne_of_none e ha
  have nb : b ≠ d := ne_of_none e hd
  rw [upd_ne nb, del_ne na]
  exact bt b o (by rw [upd_ne na]; exact e) na
end
end Og

set_option Elab.async false
set_option linter.all false
set_option maxRecDepth 100000
set_option maxHeartbeats 8000000
namespace Og
open PySem L2
section
variable {P : Program} {w : World} {K : PySem.W.Frag} {mg : Str → Option Value} {base : Heap}
abbrev sBadBook : Stmt := inClass (top 2) 0
theorem scBadBook : FnScope ["self", "what", "value"] ["self", "what", "value"] (defScope sBadBook) := ⟨rfl, rfl, rfl, by decide +kernel, rfl, by decide +kernel, by decide +kernel⟩
theorem ok_BadBook {f C : Addr} {fd : FuncData} (F : Fun K "__init__" "BadBook.__init__" sBadBook f fd) (T : IniTxt K C ["what", "value"]) : FnOk P w K mg base CX0 1 f fd ["self", "what", "value"] (spIni C ["what", "value"]) := by
  refine F.ok scBadBook (fun vs H Q E h => ?_) (fun cdv A outer s H vs Q E hr h => ?_)
  · obtain ⟨a, ws, rfl, l, _⟩ := h
    rw [List.length_cons, l]
    rfl
  · obtain ⟨a, ws, rfl, l, ha, k⟩ := h
    match ws, l with
    | [y0, y1], _ =>
      refine ⟨_, (pss_cons (ps_ost (pv 0) (pv 1)) (pss_one (ps_ost (pv 0) (pv 2)))), ?_⟩
      refine ⟨_, rfl, _, rfl, a, C, rfl, T.o, T.no _ (by simp), .inl ⟨ha, fun d hd nd => ?_⟩⟩
      refine ⟨_, rfl, _, rfl, a, C, rfl, T.o, T.no _ (by simp), .inr ⟨d, _, upd_same, by rw [upd_ne nd, upd_same], by show 1 ≤ 900; decide, ?_⟩⟩
      exact k d _ hd nd (by rw [upd_ne (Ne.symm nd)]; exact upd_same) (by rw [upd_same]; rfl) (fun b o e nb => by rw [upd_ne (ne_of_none e hd), upd_ne nb, upd_ne (ne_of_none e hd)]; exact e)
theorem err_BadBook {f C : Addr} {fd : FuncData} (F : Fun K "__init__" "BadBook.__init__" sBadBook f fd) (T : IniTxt K C ["what", "value"]) (iC : PySem.W.findIn K (.ref C) "__init__" = some (some (.ref f))) (tI : PySem.W.typeIn K (.ref f) = some (.type "function")) (g : mg "BadBook" = some (.ref C)) : ErrOk P w K mg base "BadBook" C ["what", "value"] :=
  ⟨T, g, by show 2 ≤ 900; decide, f, fd, iC, tI, ok_BadBook F T, kbn_pos F 3 (fun _ _ _ _ _ _ us hl => match us, hl with | [_, _, _], _ => rfl),
    kbn_of F 1 _ (fun us ws => us ++ ws.reverse) (fun r z => r.append (vals_rev z)) (fun _ _ _ _ _ _ us ws h1 h2 => match us, ws, h1, h2 with | [_], [_, _], _, _ => rfl),
    F.binds fun _ _ _ _ _ _ us hl => match us, hl with | [_, _, _], _ => rfl⟩
abbrev sMisread : Stmt := inClass (top 3) 0
theorem scMisread : FnScope ["self", "what", "line", "column"] ["self", "what", "line", "column"] (defScope sMisread) := ⟨rfl, rfl, rfl, by decide +kernel, rfl, by decide +kernel, by decide +kernel⟩
theorem ok_Misread {f C : Addr} {fd : FuncData} (F : Fun K "__init__" "Misread.__init__" sMisread f fd) (T : IniTxt K C ["what", "line", "column"]) : FnOk P w K mg base CX0 1 f fd ["self", "what", "line", "column"] (spIni C ["what", "line", "column"]) := by
  refine F.ok scMisread (fun vs H Q E h => ?_) (fun cdv A outer s H vs Q E hr h => ?_)
  · obtain ⟨a, ws, rfl, l, _⟩ := h
    rw [List.length_cons, l]
    rfl
  · obtain ⟨a, ws, rfl, l, ha, k⟩ := h
    match ws, l with
    | [y0, y1, y2], _ =>
      refine ⟨_, (pss_cons (ps_ost (pv 0) (pv 1)) (pss_cons (ps_ost (pv 0) (pv 2)) (pss_one (ps_ost (pv 0) (pv 3))))), ?_⟩
      refine ⟨_, rfl, _, rfl, a, C, rfl, T.o, T.no _ (by simp), .inl ⟨ha, fun d hd nd => ?_⟩⟩
      refine ⟨_, rfl, _, rfl, a, C, rfl, T.o, T.no _ (by simp), .inr ⟨d, _, upd_same, by rw [upd_ne nd, upd_same], by show 1 ≤ 900; decide, ?_⟩⟩
      refine ⟨_, rfl, _, rfl, a, C, rfl, T.o, T.no _ (by simp), .inr ⟨d, _, by rw [upd_ne (Ne.symm nd)]; exact upd_same, upd_same, by show 2 ≤ 900; decide, ?_⟩⟩
      exact k d _ hd nd (by rw [upd_ne (Ne.symm nd), upd_ne (Ne.symm nd)]; exact upd_same) (by rw [upd_same]; rfl) (fun b o e nb => by rw [upd_ne (ne_of_none e hd), upd_ne (ne_of_none e hd), upd_ne nb, upd_ne (ne_of_none e hd)]; exact e)
theorem err_Misread {f C : Addr} {fd : FuncData} (F : Fun K "__init__" "Misread.__init__" sMisread f fd) (T : IniTxt K C ["what", "line", "column"]) (iC : PySem.W.findIn K (.ref C) "__init__" = some (some (.ref f))) (tI : PySem.W.typeIn K (.ref f) = some (.type "function")) (g : mg "Misread" = some (.ref C)) : ErrOk P w K mg base "Misread" C ["what", "line", "column"] :=
  ⟨T, g, by show 3 ≤ 900; decide, f, fd, iC, tI, ok_Misread F T, kbn_pos F 4 (fun _ _ _ _ _ _ us hl => match us, hl with | [_, _, _, _], _ => rfl),
    kbn_of F 1 _ (fun us ws => us ++ ws.reverse) (fun r z => r.append (vals_rev z)) (fun _ _ _ _ _ _ us ws h1 h2 => match us, ws, h1, h2 with | [_], [_, _, _], _, _ => rfl),
    F.binds fun _ _ _ _ _ _ us hl => match us, hl with | [_, _, _, _], _ => rfl⟩
abbrev sBadRatio : Stmt := inClass (top 4) 0
theorem scBadRatio : FnScope ["self", "value"] ["self", "value"] (defScope sBadRatio) := ⟨rfl, rfl, rfl, by decide +kernel, rfl, by decide +kernel, by decide +kernel⟩
theorem ok_BadRatio {f C : Addr} {fd : FuncData} (F : Fun K "__init__" "BadRatio.__init__" sBadRatio f fd) (T : IniTxt K C ["value"]) : FnOk P w K mg base CX0 1 f fd ["self", "value"] (spIni C ["value"]) := by
  refine F.ok scBadRatio (fun vs H Q E h => ?_) (fun cdv A outer s H vs Q E hr h => ?_)
  · obtain ⟨a, ws, rfl, l, _⟩ := h
    rw [List.length_cons, l]
    rfl
  · obtain ⟨a, ws, rfl, l, ha, k⟩ := h
    match ws, l with
    | [y0], _ =>
      refine ⟨_, (pss_one (ps_ost (pv 0) (pv 1))), ?_⟩
      refine ⟨_, rfl, _, rfl, a, C, rfl, T.o, T.no _ (by simp), .inl ⟨ha, fun d hd nd => ?_⟩⟩
      exact k d _ hd nd upd_same (by rw [upd_ne nd, upd_same]; rfl) (But.trans (But.new hd) But.upd)
theorem err_BadRatio {f C : Addr} {fd : FuncData} (F : Fun K "__init__" "BadRatio.__init__" sBadRatio f fd) (T : IniTxt K C ["value"]) (iC : PySem.W.findIn K (.ref C) "__init__" = some (some (.ref f))) (tI : PySem.W.typeIn K (.ref f) = some (.type "function")) (g : mg "BadRatio" = some (.ref C)) : ErrOk P w K mg base "BadRatio" C ["value"] :=
  ⟨T, g, by show 1 ≤ 900; decide, f, fd, iC, tI, ok_BadRatio F T, kbn_pos F 2 (fun _ _ _ _ _ _ us hl => match us, hl with | [_, _], _ => rfl),
    kbn_of F 1 _ (fun us ws => us ++ ws.reverse) (fun r z => r.append (vals_rev z)) (fun _ _ _ _ _ _ us ws h1 h2 => match us, ws, h1, h2 with | [_], [_], _, _ => rfl),
    F.binds fun _ _ _ _ _ _ us hl => match us, hl with | [_, _], _ => rfl⟩
abbrev sBadRow : Stmt := inClass (top 5) 0
theorem scBadRow : FnScope ["self", "what", "row"] ["self", "what", "row"] (defScope sBadRow) := ⟨rfl, rfl, rfl, by decide +kernel, rfl, by decide +kernel, by decide +kernel⟩
theorem ok_BadRow {f C : Addr} {fd : FuncData} (F : Fun K "__init__" "BadRow.__init__" sBadRow f fd) (T : IniTxt K C ["what", "row"]) : FnOk P w K mg base CX0 1 f fd ["self", "what", "row"] (spIni C ["what", "row"]) := by
  refine F.ok scBadRow (fun vs H Q E h => ?_) (fun cdv A outer s H vs Q E hr h => ?_)
  · obtain ⟨a, ws, rfl, l, _⟩ := h
    rw [List.length_cons, l]
    rfl
  · obtain ⟨a, ws, rfl, l, ha, k⟩ := h
    match ws, l with
    | [y0, y1], _ =>
      refine ⟨_, (pss_cons (ps_ost (pv 0) (pv 1)) (pss_one (ps_ost (pv 0) (pv 2)))), ?_⟩
      refine ⟨_, rfl, _, rfl, a, C, rfl, T.o, T.no _ (by simp), .inl ⟨ha, fun d hd nd => ?_⟩⟩
      refine ⟨_, rfl, _, rfl, a, C, rfl, T.o, T.no _ (by simp), .inr ⟨d, _, upd_same, by rw [upd_ne nd, upd_same], by show 1 ≤ 900; decide, ?_⟩⟩
      exact k d _ hd nd (by rw [upd_ne (Ne.symm nd)]; exact upd_same) (by rw [upd_same]; rfl) (fun b o e nb => by rw [upd_ne (ne_of_none e hd), upd_ne nb, upd_ne (ne_of_none e hd)]; exact e)
theorem err_BadRow {f C : Addr} {fd : FuncData} (F : Fun K "__init__" "BadRow.__init__" sBadRow f fd) (T : IniTxt K C ["what", "row"]) (iC : PySem.W.findIn K (.ref C) "__init__" = some (some (.ref f))) (tI : PySem.W.typeIn K (.ref f) = some (.type "function")) (g : mg "BadRow" = some (.ref C)) : ErrOk P w K mg base "BadRow" C ["what", "row"] :=
  ⟨T, g, by show 2 ≤ 900; decide, f, fd, iC, tI, ok_BadRow F T, kbn_pos F 3 (fun _ _ _ _ _ _ us hl => match us, hl with | [_, _, _], _ => rfl),
    kbn_of F 1 _ (fun us ws => us ++ ws.reverse) (fun r z => r.append (vals_rev z)) (fun _ _ _ _ _ _ us ws h1 h2 => match us, ws, h1, h2 with | [_], [_, _], _, _ => rfl),
    F.binds fun _ _ _ _ _ _ us hl => match us, hl with | [_, _, _], _ => rfl⟩
abbrev sBadLot : Stmt := inClass (top 6) 0
theorem scBadLot : FnScope ["self", "what", "lot"] ["self", "what", "lot"] (defScope sBadLot) := ⟨rfl, rfl, rfl, by decide +kernel, rfl, by decide +kernel, by decide +kernel⟩
theorem ok_BadLot {f C : Addr} {fd : FuncData} (F : Fun K "__init__" "BadLot.__init__" sBadLot f fd) (T : IniTxt K C ["what", "lot"]) : FnOk P w K mg base CX0 1 f fd ["self", "what", "lot"] (spIni C ["what", "lot"]) := by
  refine F.ok scBadLot (fun vs H Q E h => ?_) (fun cdv A outer s H vs Q E hr h => ?_)
  · obtain ⟨a, ws, rfl, l, _⟩ := h
    rw [List.length_cons, l]
    rfl
  · obtain ⟨a, ws, rfl, l, ha, k⟩ := h
    match ws, l with
    | [y0, y1], _ =>
      refine ⟨_, (pss_cons (ps_ost (pv 0) (pv 1)) (pss_one (ps_ost (pv 0) (pv 2)))), ?_⟩
      refine ⟨_, rfl, _, rfl, a, C, rfl, T.o, T.no _ (by simp), .inl ⟨ha, fun d hd nd => ?_⟩⟩
      refine ⟨_, rfl, _, rfl, a, C, rfl, T.o, T.no _ (by simp), .inr ⟨d, _, upd_same, by rw [upd_ne nd, upd_same], by show 1 ≤ 900; decide, ?_⟩⟩
      exact k d _ hd nd (by rw [upd_ne (Ne.symm nd)]; exact upd_same) (by rw [upd_same]; rfl) (fun b o e nb => by rw [upd_ne (ne_of_none e hd), upd_ne nb, upd_ne (ne_of_none e hd)]; exact e)
theorem err_BadLot {f C : Addr} {fd : FuncData} (F : Fun K "__init__" "BadLot.__init__" sBadLot f fd) (T : IniTxt K C ["what", "lot"]) (iC : PySem.W.findIn K (.ref C) "__init__" = some (some (.ref f))) (tI : PySem.W.typeIn K (.ref f) = some (.type "function")) (g : mg "BadLot" = some (.ref C)) : ErrOk P w K mg base "BadLot" C ["what", "lot"] :=
  ⟨T, g, by show 2 ≤ 900; decide, f, fd, iC, tI, ok_BadLot F T, kbn_pos F 3 (fun _ _ _ _ _ _ us hl => match us, hl with | [_, _, _], _ => rfl),
    kbn_of F 1 _ (fun us ws => us ++ ws.reverse) (fun r z => r.append (vals_rev z)) (fun _ _ _ _ _ _ us ws h1 h2 => match us, ws, h1, h2 with | [_], [_, _], _, _ => rfl),
    F.binds fun _ _ _ _ _ _ us hl => match us, hl with | [_, _, _], _ => rfl⟩
abbrev sBadName : Stmt := inClass (top 7) 0
theorem scBadName : FnScope ["self", "name"] ["self", "name"] (defScope sBadName) := ⟨rfl, rfl, rfl, by decide +kernel, rfl, by decide +kernel, by decide +kernel⟩
theorem ok_BadName {f C : Addr} {fd : FuncData} (F : Fun K "__init__" "BadName.__init__" sBadName f fd) (T : IniTxt K C ["name"]) : FnOk P w K mg base CX0 1 f fd ["self", "name"] (spIni C ["name"]) := by
  refine F.ok scBadName (fun vs H Q E h => ?_) (fun cdv A outer s H vs Q E hr h => ?_)
  · obtain ⟨a, ws, rfl, l, _⟩ := h
    rw [List.length_cons, l]
    rfl
  · obtain ⟨a, ws, rfl, l, ha, k⟩ := h
    match ws, l with
    | [y0], _ =>
      refine ⟨_, (pss_one (ps_ost (pv 0) (pv 1))), ?_⟩
      refine ⟨_, rfl, _, rfl, a, C, rfl, T.o, T.no _ (by simp), .inl ⟨ha, fun d hd nd => ?_⟩⟩
      exact k d _ hd nd upd_same (by rw [upd_ne nd, upd_same]; rfl) (But.trans (But.new hd) But.upd)
theorem err_BadName {f C : Addr} {fd : FuncData} (F : Fun K "__init__" "BadName.__init__" sBadName f fd) (T : IniTxt K C ["name"]) (iC : PySem.W.findIn K (.ref C) "__init__" = some (some (.ref f))) (tI : PySem.W.typeIn K (.ref f) = some (.type "function")) (g : mg "BadName" = some (.ref C)) : ErrOk P w K mg base "BadName" C ["name"] :=
  ⟨T, g, by show 1 ≤ 900; decide, f, fd, iC, tI, ok_BadName F T, kbn_pos F 2 (fun _ _ _ _ _ _ us hl => match us, hl with | [_, _], _ => rfl),
    kbn_of F 1 _ (fun us ws => us ++ ws.reverse) (fun r z => r.append (vals_rev z)) (fun _ _ _ _ _ _ us ws h1 h2 => match us, ws, h1, h2 with | [_], [_], _, _ => rfl),
    F.binds fun _ _ _ _ _ _ us hl => match us, hl with | [_, _], _ => rfl⟩
abbrev sNoName : Stmt := inClass (top 8) 0
theorem scNoName : FnScope ["self", "name"] ["self", "name"] (defScope sNoName) := ⟨rfl, rfl, rfl, by decide +kernel, rfl, by decide +kernel, by decide +kernel⟩
theorem ok_NoName {f C : Addr} {fd : FuncData} (F : Fun K "__init__" "NoName.__init__" sNoName f fd) (T : IniTxt K C ["name"]) : FnOk P w K mg base CX0 1 f fd ["self", "name"] (spIni C ["name"]) := by
  refine F.ok scNoName (fun vs H Q E h => ?_) (fun cdv A outer s H vs Q E hr h => ?_)
  · obtain ⟨a, ws, rfl, l, _⟩ := h
    rw [List.length_cons, l]
    rfl
  · obtain ⟨a, ws, rfl, l, ha, k⟩ := h
    match ws, l with
    | [y0], _ =>
      refine ⟨_, (pss_one (ps_ost (pv 0) (pv 1))), ?_⟩
      refine ⟨_, rfl, _, rfl, a, C, rfl, T.o, T.no _ (by simp), .inl ⟨ha, fun d hd nd => ?_⟩⟩
      exact k d _ hd nd upd_same (by rw [upd_ne nd, upd_same]; rfl) (But.trans (But.new hd) But.upd)
theorem err_NoName {f C : Addr} {fd : FuncData} (F : Fun K "__init__" "NoName.__init__" sNoName f fd) (T : IniTxt K C ["name"]) (iC : PySem.W.findIn K (.ref C) "__init__" = some (some (.ref f))) (tI : PySem.W.typeIn K (.ref f) = some (.type "function")) (g : mg "NoName" = some (.ref C)) : ErrOk P w K mg base "NoName" C ["name"] :=
  ⟨T, g, by show 1 ≤ 900; decide, f, fd, iC, tI, ok_NoName F T, kbn_pos F 2 (fun _ _ _ _ _ _ us hl => match us, hl with | [_, _], _ => rfl),
    kbn_of F 1 _ (fun us ws => us ++ ws.reverse) (fun r z => r.append (vals_rev z)) (fun _ _ _ _ _ _ us ws h1 h2 => match us, ws, h1, h2 with | [_], [_], _, _ => rfl),
    F.binds fun _ _ _ _ _ _ us hl => match us, hl with | [_, _], _ => rfl⟩
abbrev sTakenName : Stmt := inClass (top 9) 0
theorem scTakenName : FnScope ["self", "name"] ["self", "name"] (defScope sTakenName) := ⟨rfl, rfl, rfl, by decide +kernel, rfl, by decide +kernel, by decide +kernel⟩
theorem ok_TakenName {f C : Addr} {fd : FuncData} (F : Fun K "__init__" "TakenName.__init__" sTakenName f fd) (T : IniTxt K C ["name"]) : FnOk P w K mg base CX0 1 f fd ["self", "name"] (spIni C ["name"]) := by
  refine F.ok scTakenName (fun vs H Q E h => ?_) (fun cdv A outer s H vs Q E hr h => ?_)
  · obtain ⟨a, ws, rfl, l, _⟩ := h
    rw [List.length_cons, l]
    rfl
  · obtain ⟨a, ws, rfl, l, ha, k⟩ := h
    match ws, l with
    | [y0], _ =>
      refine ⟨_, (pss_one (ps_ost (pv 0) (pv 1))), ?_⟩
      refine ⟨_, rfl, _, rfl, a, C, rfl, T.o, T.no _ (by simp), .inl ⟨ha, fun d hd nd => ?_⟩⟩
      exact k d _ hd nd upd_same (by rw [upd_ne nd, upd_same]; rfl) (But.trans (But.new hd) But.upd)
theorem err_TakenName {f C : Addr} {fd : FuncData} (F : Fun K "__init__" "TakenName.__init__" sTakenName f fd) (T : IniTxt K C ["name"]) (iC : PySem.W.findIn K (.ref C) "__init__" = some (some (.ref f))) (tI : PySem.W.typeIn K (.ref f) = some (.type "function")) (g : mg "TakenName" = some (.ref C)) : ErrOk P w K mg base "TakenName" C ["name"] :=
  ⟨T, g, by show 1 ≤ 900; decide, f, fd, iC, tI, ok_TakenName F T, kbn_pos F 2 (fun _ _ _ _ _ _ us hl => match us, hl with | [_, _], _ => rfl),
    kbn_of F 1 _ (fun us ws => us ++ ws.reverse) (fun r z => r.append (vals_rev z)) (fun _ _ _ _ _ _ us ws h1 h2 => match us, ws, h1, h2 with | [_], [_], _, _ => rfl),
    F.binds fun _ _ _ _ _ _ us hl => match us, hl with | [_, _], _ => rfl⟩
abbrev sBadNumber : Stmt := inClass (top 10) 0
theorem scBadNumber : FnScope ["self", "what", "number"] ["self", "what", "number"] (defScope sBadNumber) := ⟨rfl, rfl, rfl, by decide +kernel, rfl, by decide +kernel, by decide +kernel⟩
theorem ok_BadNumber {f C : Addr} {fd : FuncData} (F : Fun K "__init__" "BadNumber.__init__" sBadNumber f fd) (T : IniTxt K C ["what", "number"]) : FnOk P w K mg base CX0 1 f fd ["self", "what", "number"] (spIni C ["what", "number"]) := by
  refine F.ok scBadNumber (fun vs H Q E h => ?_) (fun cdv A outer s H vs Q E hr h => ?_)
  · obtain ⟨a, ws, rfl, l, _⟩ := h
    rw [List.length_cons, l]
    rfl
  · obtain ⟨a, ws, rfl, l, ha, k⟩ := h
    match ws, l with
    | [y0, y1], _ =>
      refine ⟨_, (pss_cons (ps_ost (pv 0) (pv 1)) (pss_one (ps_ost (pv 0) (pv 2)))), ?_⟩
      refine ⟨_, rfl, _, rfl, a, C, rfl, T.o, T.no _ (by simp), .inl ⟨ha, fun d hd nd => ?_⟩⟩
      refine ⟨_, rfl, _, rfl, a, C, rfl, T.o, T.no _ (by simp), .inr ⟨d, _, upd_same, by rw [upd_ne nd, upd_same], by show 1 ≤ 900; decide, ?_⟩⟩
      exact k d _ hd nd (by rw [upd_ne (Ne.symm nd)]; exact upd_same) (by rw [upd_same]; rfl) (fun b o e nb => by rw [upd_ne (ne_of_none e hd), upd_ne nb, upd_ne (ne_of_none e hd)]; exact e)
theorem err_BadNumber {f C : Addr} {fd : FuncData} (F : Fun K "__init__" "BadNumber.__init__" sBadNumber f fd) (T : IniTxt K C ["what", "number"]) (iC : PySem.W.findIn K (.ref C) "__init__" = some (some (.ref f))) (tI : PySem.W.typeIn K (.ref f) = some (.type "function")) (g : mg "BadNumber" = some (.ref C)) : ErrOk P w K mg base "BadNumber" C ["what", "number"] :=
  ⟨T, g, by show 2 ≤ 900; decide, f, fd, iC, tI, ok_BadNumber F T, kbn_pos F 3 (fun _ _ _ _ _ _ us hl => match us, hl with | [_, _, _], _ => rfl),
    kbn_of F 1 _ (fun us ws => us ++ ws.reverse) (fun r z => r.append (vals_rev z)) (fun _ _ _ _ _ _ us ws h1 h2 => match us, ws, h1, h2 with | [_], [_, _], _, _ => rfl),
    F.binds fun _ _ _ _ _ _ us hl => match us, hl with | [_, _, _], _ => rfl⟩
abbrev sBadValue : Stmt := inClass (top 11) 0
theorem scBadValue : FnScope ["self", "what", "value"] ["self", "what", "value"] (defScope sBadValue) := ⟨rfl, rfl, rfl, by decide +kernel, rfl, by decide +kernel, by decide +kernel⟩
theorem ok_BadValue {f C : Addr} {fd : FuncData} (F : Fun K "__init__" "BadValue.__init__" sBadValue f fd) (T : IniTxt K C ["what", "value"]) : FnOk P w K mg base CX0 1 f fd ["self", "what", "value"] (spIni C ["what", "value"]) := by
  refine F.ok scBadValue (fun vs H Q E h => ?_) (fun cdv A outer s H vs Q E hr h => ?_)
  · obtain ⟨a, ws, rfl, l, _⟩ := h
    rw [List.length_cons, l]
    rfl
  · obtain ⟨a, ws, rfl, l, ha, k⟩ := h
    match ws, l with
    | [y0, y1], _ =>
      refine ⟨_, (pss_cons (ps_ost (pv 0) (pv 1)) (pss_one (ps_ost (pv 0) (pv 2)))), ?_⟩
      refine ⟨_, rfl, _, rfl, a, C, rfl, T.o, T.no _ (by simp), .inl ⟨ha, fun d hd nd => ?_⟩⟩
      refine ⟨_, rfl, _, rfl, a, C, rfl, T.o, T.no _ (by simp), .inr ⟨d, _, upd_same, by rw [upd_ne nd, upd_same], by show 1 ≤ 900; decide, ?_⟩⟩
      exact k d _ hd nd (by rw [upd_ne (Ne.symm nd)]; exact upd_same) (by rw [upd_same]; rfl) (fun b o e nb => by rw [upd_ne (ne_of_none e hd), upd_ne nb, upd_ne (ne_of_none e hd)]; exact e)
theorem err_BadValue {f C : Addr} {fd : FuncData} (F : Fun K "__init__" "BadValue.__init__" sBadValue f fd) (T : IniTxt K C ["what", "value"]) (iC : PySem.W.findIn K (.ref C) "__init__" = some (some (.ref f))) (tI : PySem.W.typeIn K (.ref f) = some (.type "function")) (g : mg "BadValue" = some (.ref C)) : ErrOk P w K mg base "BadValue" C ["what", "value"] :=
  ⟨T, g, by show 2 ≤ 900; decide, f, fd, iC, tI, ok_BadValue F T, kbn_pos F 3 (fun _ _ _ _ _ _ us hl => match us, hl with | [_, _, _], _ => rfl),
    kbn_of F 1 _ (fun us ws => us ++ ws.reverse) (fun r z => r.append (vals_rev z)) (fun _ _ _ _ _ _ us ws h1 h2 => match us, ws, h1, h2 with | [_], [_, _], _, _ => rfl),
    F.binds fun _ _ _ _ _ _ us hl => match us, hl with | [_, _, _], _ => rfl⟩
abbrev sBadLine : Stmt := inClass (top 12) 0
theorem scBadLine : FnScope ["self", "line", "word"] ["self", "line", "word"] (defScope sBadLine) := ⟨rfl, rfl, rfl, by decide +kernel, rfl, by decide +kernel, by decide +kernel⟩
theorem ok_BadLine {f C : Addr} {fd : FuncData} (F : Fun K "__init__" "BadLine.__init__" sBadLine f fd) (T : IniTxt K C ["line", "word"]) : FnOk P w K mg base CX0 1 f fd ["self", "line", "word"] (spIni C ["line", "word"]) := by
  refine F.ok scBadLine (fun vs H Q E h => ?_) (fun cdv A outer s H vs Q E hr h => ?_)
  · obtain ⟨a, ws, rfl, l, _⟩ := h
    rw [List.length_cons, l]
    rfl
  · obtain ⟨a, ws, rfl, l, ha, k⟩ := h
    match ws, l with
    | [y0, y1], _ =>
      refine ⟨_, (pss_cons (ps_ost (pv 0) (pv 1)) (pss_one (ps_ost (pv 0) (pv 2)))), ?_⟩
      refine ⟨_, rfl, _, rfl, a, C, rfl, T.o, T.no _ (by simp), .inl ⟨ha, fun d hd nd => ?_⟩⟩
      refine ⟨_, rfl, _, rfl, a, C, rfl, T.o, T.no _ (by simp), .inr ⟨d, _, upd_same, by rw [upd_ne nd, upd_same], by show 1 ≤ 900; decide, ?_⟩⟩
      exact k d _ hd nd (by rw [upd_ne (Ne.symm nd)]; exact upd_same) (by rw [upd_same]; rfl) (fun b o e nb => by rw [upd_ne (ne_of_none e hd), upd_ne nb, upd_ne (ne_of_none e hd)]; exact e)
theorem err_BadLine {f C : Addr} {fd : FuncData} (F : Fun K "__init__" "BadLine.__init__" sBadLine f fd) (T : IniTxt K C ["line", "word"]) (iC : PySem.W.findIn K (.ref C) "__init__" = some (some (.ref f))) (tI : PySem.W.typeIn K (.ref f) = some (.type "function")) (g : mg "BadLine" = some (.ref C)) : ErrOk P w K mg base "BadLine" C ["line", "word"] :=
  ⟨T, g, by show 2 ≤ 900; decide, f, fd, iC, tI, ok_BadLine F T, kbn_pos F 3 (fun _ _ _ _ _ _ us hl => match us, hl with | [_, _, _], _ => rfl),
    kbn_of F 1 _ (fun us ws => us ++ ws.reverse) (fun r z => r.append (vals_rev z)) (fun _ _ _ _ _ _ us ws h1 h2 => match us, ws, h1, h2 with | [_], [_, _], _, _ => rfl),
    F.binds fun _ _ _ _ _ _ us hl => match us, hl with | [_, _, _], _ => rfl⟩
abbrev sUnlike : Stmt := inClass (top 13) 0
theorem scUnlike : FnScope ["self", "what"] ["self", "what"] (defScope sUnlike) := ⟨rfl, rfl, rfl, by decide +kernel, rfl, by decide +kernel, by decide +kernel⟩
theorem ok_Unlike {f C : Addr} {fd : FuncData} (F : Fun K "__init__" "Unlike.__init__" sUnlike f fd) (T : IniTxt K C ["what"]) : FnOk P w K mg base CX0 1 f fd ["self", "what"] (spIni C ["what"]) := by
  refine F.ok scUnlike (fun vs H Q E h => ?_) (fun cdv A outer s H vs Q E hr h => ?_)
  · obtain ⟨a, ws, rfl, l, _⟩ := h
    rw [List.length_cons, l]
    rfl
  · obtain ⟨a, ws, rfl, l, ha, k⟩ := h
    match ws, l with
    | [y0], _ =>
      refine ⟨_, (pss_one (ps_ost (pv 0) (pv 1))), ?_⟩
      refine ⟨_, rfl, _, rfl, a, C, rfl, T.o, T.no _ (by simp), .inl ⟨ha, fun d hd nd => ?_⟩⟩
      exact k d _ hd nd upd_same (by rw [upd_ne nd, upd_same]; rfl) (But.trans (But.new hd) But.upd)
theorem err_Unlike {f C : Addr} {fd : FuncData} (F : Fun K "__init__" "Unlike.__init__" sUnlike f fd) (T : IniTxt K C ["what"]) (iC : PySem.W.findIn K (.ref C) "__init__" = some (some (.ref f))) (tI : PySem.W.typeIn K (.ref f) = some (.type "function")) (g : mg "Unlike" = some (.ref C)) : ErrOk P w K mg base "Unlike" C ["what"] :=
  ⟨T, g, by show 1 ≤ 900; decide, f, fd, iC, tI, ok_Unlike F T, kbn_pos F 2 (fun _ _ _ _ _ _ us hl => match us, hl with | [_, _], _ => rfl),
    kbn_of F 1 _ (fun us ws => us ++ ws.reverse) (fun r z => r.append (vals_rev z)) (fun _ _ _ _ _ _ us ws h1 h2 => match us, ws, h1, h2 with | [_], [_], _, _ => rfl),
    F.binds fun _ _ _ _ _ _ us hl => match us, hl with | [_, _], _ => rfl⟩
abbrev sTooMany : Stmt := inClass (top 14) 0
theorem scTooMany : FnScope ["self", "what", "many", "limit"] ["self", "what", "many", "limit"] (defScope sTooMany) := ⟨rfl, rfl, rfl, by decide +kernel, rfl, by decide +kernel, by decide +kernel⟩
theorem ok_TooMany {f C : Addr} {fd : FuncData} (F : Fun K "__init__" "TooMany.__init__" sTooMany f fd) (T : IniTxt K C ["what", "many", "limit"]) : FnOk P w K mg base CX0 1 f fd ["self", "what", "many", "limit"] (spIni C ["what", "many", "limit"]) := by
  refine F.ok scTooMany (fun vs H Q E h => ?_) (fun cdv A outer s H vs Q E hr h => ?_)
  · obtain ⟨a, ws, rfl, l, _⟩ := h
    rw [List.length_cons, l]
    rfl
  · obtain ⟨a, ws, rfl, l, ha, k⟩ := h
    match ws, l with
    | [y0, y1, y2], _ =>
      refine ⟨_, (pss_cons (ps_ost (pv 0) (pv 1)) (pss_cons (ps_ost (pv 0) (pv 2)) (pss_one (ps_ost (pv 0) (pv 3))))), ?_⟩
      refine ⟨_, rfl, _, rfl, a, C, rfl, T.o, T.no _ (by simp), .inl ⟨ha, fun d hd nd => ?_⟩⟩
      refine ⟨_, rfl, _, rfl, a, C, rfl, T.o, T.no _ (by simp), .inr ⟨d, _, upd_same, by rw [upd_ne nd, upd_same], by show 1 ≤ 900; decide, ?_⟩⟩
      refine ⟨_, rfl, _, rfl, a, C, rfl, T.o, T.no _ (by simp), .inr ⟨d, _, by rw [upd_ne (Ne.symm nd)]; exact upd_same, upd_same, by show 2 ≤ 900; decide, ?_⟩⟩
      exact k d _ hd nd (by rw [upd_ne (Ne.symm nd), upd_ne (Ne.symm nd)]; exact upd_same) (by rw [upd_same]; rfl) (fun b o e nb => by rw [upd_ne (ne_of_none e hd), upd_ne (ne_of_none e hd), upd_ne nb, upd_ne (ne_of_none e hd)]; exact e)
theorem err_TooMany {f C : Addr} {fd : FuncData} (F : Fun K "__init__" "TooMany.__init__" sTooMany f fd) (T : IniTxt K C ["what", "many", "limit"]) (iC : PySem.W.findIn K (.ref C) "__init__" = some (some (.ref f))) (tI : PySem.W.typeIn K (.ref f) = some (.type "function")) (g : mg "TooMany" = some (.ref C)) : ErrOk P w K mg base "TooMany" C ["what", "many", "limit"] :=
  ⟨T, g, by show 3 ≤ 900; decide, f, fd, iC, tI, ok_TooMany F T, kbn_pos F 4 (fun _ _ _ _ _ _ us hl => match us, hl with | [_, _, _, _], _ => rfl),
    kbn_of F 1 _ (fun us ws => us ++ ws.reverse) (fun r z => r.append (vals_rev z)) (fun _ _ _ _ _ _ us ws h1 h2 => match us, ws, h1, h2 with | [_], [_, _, _], _, _ => rfl),
    F.binds fun _ _ _ _ _ _ us hl => match us, hl with | [_, _, _, _], _ => rfl⟩
abbrev sNotKept : Stmt := inClass (top 15) 0
theorem scNotKept : FnScope ["self", "promise", "witness"] ["self", "promise", "witness"] (defScope sNotKept) := ⟨rfl, rfl, rfl, by decide +kernel, rfl, by decide +kernel, by decide +kernel⟩
theorem ok_NotKept {f C : Addr} {fd : FuncData} (F : Fun K "__init__" "NotKept.__init__" sNotKept f fd) (T : IniTxt K C ["promise", "witness"]) : FnOk P w K mg base CX0 1 f fd ["self", "promise", "witness"] (spIni C ["promise", "witness"]) := by
  refine F.ok scNotKept (fun vs H Q E h => ?_) (fun cdv A outer s H vs Q E hr h => ?_)
  · obtain ⟨a, ws, rfl, l, _⟩ := h
    rw [List.length_cons, l]
    rfl
  · obtain ⟨a, ws, rfl, l, ha, k⟩ := h
    match ws, l with
    | [y0, y1], _ =>
      refine ⟨_, (pss_cons (ps_ost (pv 0) (pv 1)) (pss_one (ps_ost (pv 0) (pv 2)))), ?_⟩
      refine ⟨_, rfl, _, rfl, a, C, rfl, T.o, T.no _ (by simp), .inl ⟨ha, fun d hd nd => ?_⟩⟩
      refine ⟨_, rfl, _, rfl, a, C, rfl, T.o, T.no _ (by simp), .inr ⟨d, _, upd_same, by rw [upd_ne nd, upd_same], by show 1 ≤ 900; decide, ?_⟩⟩
      exact k d _ hd nd (by rw [upd_ne (Ne.symm nd)]; exact upd_same) (by rw [upd_same]; rfl) (fun b o e nb => by rw [upd_ne (ne_of_none e hd), upd_ne nb, upd_ne (ne_of_none e hd)]; exact e)
theorem err_NotKept {f C : Addr} {fd : FuncData} (F : Fun K "__init__" "NotKept.__init__" sNotKept f fd) (T : IniTxt K C ["promise", "witness"]) (iC : PySem.W.findIn K (.ref C) "__init__" = some (some (.ref f))) (tI : PySem.W.typeIn K (.ref f) = some (.type "function")) (g : mg "NotKept" = some (.ref C)) : ErrOk P w K mg base "NotKept" C ["promise", "witness"] :=
  ⟨T, g, by show 2 ≤ 900; decide, f, fd, iC, tI, ok_NotKept F T, kbn_pos F 3 (fun _ _ _ _ _ _ us hl => match us, hl with | [_, _, _], _ => rfl),
    kbn_of F 1 _ (fun us ws => us ++ ws.reverse) (fun r z => r.append (vals_rev z)) (fun _ _ _ _ _ _ us ws h1 h2 => match us, ws, h1, h2 with | [_], [_, _], _, _ => rfl),
    F.binds fun _ _ _ _ _ _ us hl => match us, hl with | [_, _, _], _ => rfl⟩
end
end Og

set_option Elab.async false
set_option linter.all false
set_option maxRecDepth 100000
set_option maxHeartbeats 8000000
namespace Og
open PySem L2
abbrev sCaught : Stmt := top 24
structure CaughtTxt (K : PySem.W.Frag) (mg : Str → Option Value) (C : Nat → Addr) (G : Addr) : Prop where
  e : ErrTxt K mg C
  gG : mg "GroundError" = some (.ref G)
  tm : ExcC K (C 12)
  kit : PySem.W.kitOne K (.ref (C 12)) (.ref (C 12)) = some true
  exG : PySem.W.exmOne K (.ref (C 12)) (.ref G) = some true
  exT : PySem.W.exmOne K (.ref (C 12)) (.ref (C 12)) = some true
def ItemOk (v : V) : Prop := flatB v = true ∨ ∃ a, v = .ref a
def spCaught : Sp := fun vs H Q _ => ∃ v : V, vs = [v] ∧ ItemOk v ∧ ∀ H', Same H H' → Q (.bl true) H'
theorem look3 (v : V) : ([("limit", V.int 3), ("many", v), ("what", v)] : List (Str × V)).lookup ("what" : Str) = some v := by
  rw [lookup_put, if_neg (by decide +kernel), lookup_put, if_neg (by decide +kernel), lookup_put, if_pos rfl]
theorem look2 (v : V) : ([("limit", V.int 3), ("many", v), ("what", v)] : List (Str × V)).lookup ("many" : Str) = some v := by
  rw [lookup_put, if_neg (by decide +kernel), lookup_put, if_pos rfl]
theorem look1 (v : V) : ([("limit", V.int 3), ("many", v), ("what", v)] : List (Str × V)).lookup ("limit" : Str) = some (.int 3) := by
  rw [lookup_put, if_pos rfl]
section
variable {P : Program} {w : World} {K : PySem.W.Frag} {mg : Str → Option Value} {base : Heap}
theorem scCaught : FnScope ["value", "fault", "caught", "kept"] ["value"] (defScope sCaught) := ⟨rfl, rfl, rfl, by decide +kernel, rfl, by decide +kernel, by decide +kernel⟩
theorem ok_caught {f : Addr} {fd : FuncData} {C : Nat → Addr} {G : Addr} (F : Fun K "_law_caught" "_law_caught" sCaught f fd) (T : CaughtTxt K mg C G)
    (E12 : ErrOk P w K mg base "TooMany" (C 12) ["what", "many", "limit"]) : FnOk P w K mg base CX0 3 f fd ["value"] spCaught := by
  refine F.ok scCaught (fun vs H Q E h => ?_) (fun cdv A outer s H vs Q E hr h => ?_)
  · obtain ⟨v, rfl, _⟩ := h
    rfl
  · obtain ⟨v, rfl, hv, k⟩ := h
    have hu : (A.deeper (PyProof.Rows.envOfC "_law_caught" (defScope sCaught) s.heap.objs.size f cdv)).units + 64 < cLine := hr.units
    refine ⟨_, pss_cons (ps_try_as (i := 1) (tb := fun W => fun _ σ H => tErrMk (C 12) ["what", "many", "limit"] (tCons (tVar 0) (tCons (tVar 0) (tCons (tC (.int 3)) tNil))) σ H fun cls d H' => W cls d σ H')
        (ts := fun a cls d => tAsg (tCB (rIsS K a cls d) (tCons (tVar 1) (tCons (tC (.ref (C 12))) tNil))) (gName 2)) (Wout := fun _ _ _ _ => False) rfl rfl scCaught.nd rfl rfl ⟨rfl, by decide, Or.inl T.gG⟩ takes0
        (fun W pn xe tk _ => pss_one (ps_raise rfl tk (by exact pmk_err E12 (hr.mono (by decide)) (pa_cons (pv 0) (pa_cons (pv 0) (pa_cons pe_int pa_nil))))))
        (fun a oe cls d pn hz hf => pss_one (ps_set (i := 2) scCaught.nd rfl (Or.inl rfl) (by exact pe_callB (call_isS hz hf) (by rfl) T.e.isi (by decide +kernel) (pa_cons (pv 1) (pa_cons (pe_glob (v := .ref (C 12)) rfl T.e.g12 rfl) pa_nil))))))
      (pss_cons (ps_try_as (i := 1) (tb := fun W => fun _ σ H => tErrMk (C 12) ["what", "many", "limit"] (tCons (tVar 0) (tCons (tVar 0) (tCons (tC (.int 3)) tNil))) σ H fun cls d H' => W cls d σ H')
        (ts := fun a cls d => tAsg (tTup (tCons (tXf a cls d (C 12) "what" (tVar 1)) (tCons (tXf a cls d (C 12) "many" (tVar 1)) (tCons (tXf a cls d (C 12) "limit" (tVar 1)) tNil)))) (gName 3)) (Wout := fun _ _ _ _ => False) rfl rfl scCaught.nd rfl rfl ⟨rfl, by decide, Or.inl T.e.g12⟩ takes0
        (fun W pn xe tk _ => pss_one (ps_raise rfl tk (by exact pmk_err E12 (hr.mono (by decide)) (pa_cons (pv 0) (pa_cons (pv 0) (pa_cons pe_int pa_nil))))))
        (fun a oe cls d pn hz hf => pss_one (ps_set (i := 3) scCaught.nd rfl (Or.inl rfl) (by exact pe_tup (pa_cons (pe_xf E12.t.xf (E12.t.no _ (by simp)) hz hf (pv 1)) (pa_cons (pe_xf E12.t.xf (E12.t.no _ (by simp)) hz hf (pv 1)) (pa_cons (pe_xf E12.t.xf (E12.t.no _ (by simp)) hz hf (pv 1)) pa_nil)))))))
      (pss_one (ps_ret (pe_and (pv 2) (pe_one (pe_cmpR (op_eqTup hu) (pv 3) (pe_tup (pa_cons (pv 0) (pa_cons (pv 0) (pa_cons pe_int pa_nil)))) (nomark _))))))), ?_⟩
    refine ⟨_, rfl, _, rfl, rfl, fun d H1 hd h1 s1 => ⟨true, T.exG, fun _ a ha => ?_, fun q => nomatch q⟩⟩
    refine ⟨_, rfl, C 12, .ref (C 12), .ref (C 12), true, rfl, rfl, T.tm, fun dd e => ⟨_, by cases e; exact h1⟩, fun u r => r, T.kit, ?_⟩
    refine ⟨_, rfl, _, rfl, rfl, fun d2 H2 hd2 h2 s2 => ⟨true, T.exT, fun _ a2 ha2 => ?_, fun q => nomatch q⟩⟩
    refine ⟨_, rfl, rfl, rfl, d2, _, _, rfl, h2, look3 v, _, rfl, rfl, rfl, d2, _, _, rfl, h2, look2 v, _, rfl, rfl, rfl, d2, _, _, rfl, h2, look1 v, (by show 3 ≤ sizeLine; decide), fun t ht => ?_⟩
    refine ⟨_, rfl, true, rfl, iteT ⟨_, rfl, _, rfl, _, rfl, (by show 3 ≤ sizeLine; decide), fun t2 ht2 => ⟨t, t2, _, rfl, rfl, SqT.of (by rw [upd_ne (ne_of_none upd_same ht2), upd_same]), SqT.of upd_same, ?_, ?_⟩⟩⟩
    · intro x hx
      simp only [List.mem_cons, List.not_mem_nil, or_false] at hx
      rcases hx with rfl | rfl | rfl
      · exact hv
      · exact hv
      · exact .inl rfl
    · exact k _ (((s1.trans s2).trans (Same.new ht)).trans (Same.new ht2))
end
end Og

set_option Elab.async false
set_option linter.all false
set_option maxRecDepth 100000
set_option maxHeartbeats 4000000
/-! [test for x in xs], every test true. -/
namespace Og
open PySem PySem.Spec PyProof.Rows L2
theorem lc_all {K : PySem.W.Frag} {l D : Addr} {xs : List V} {te : TE} {σ : L2.St} {H1 : Hp} {s : Nat} {Qd : Hp → Prop} (hl : SqL K H1 l xs) (hD : H1 D = none) (hlen : xs.length ≤ 1000)
    (hw : ∀ x : V, wipe ((wipe σ [s]).set s (some x)) [s] = wipe σ [s])
    (he : ∀ x ∈ xs, ∀ (H3 : Hp) (R : V → Hp → Prop), Same H1 H3 → (∀ H4, Same H3 H4 → R (.bl true) H4) → te ((wipe σ [s]).set s (some x)) H3 R)
    (hd : ∀ H, Same H1 H → H D = some (.lst ((List.replicate xs.length true).map V.bl)) → Qd H) :
    ∃ W : Nat → Nat → Hp → Prop, (∃ m, W 0 m (upd H1 D (.lst []))) ∧ ∀ i m H, W i m H →
      ((Itl K l).stop i H ∧ Qd H) ∨ ((Itl K l).go i H ∧ ∃ Nx : Hp → Prop, (∀ H', Nx H' → ∃ m', m' < m ∧ W (i + 1) m' H') ∧ ∀ x H', (Itl K l).yld i H x H' → gName s x (wipe σ [s]) H' fun σ2 H2 =>
        wipe σ2 [s] = wipe σ [s] ∧ tYes σ2 H2 fun b H3 => if b = true then te σ2 H3 fun y H4 => ∃ acc, H4 D = some (.lst acc) ∧ acc.length < sizeLine ∧ Nx (upd H4 D (.lst (acc ++ [y]))) else Nx H3) := by
  refine lc_list (K := K) (a := l) (xs := xs) (fun i H => Same H1 H ∧ i ≤ xs.length ∧ H D = some (.lst ((List.replicate i true).map V.bl))) ⟨Same.new hD, Nat.zero_le _, upd_same⟩ (fun i H _ h => h.1.seq hl) ?_ ?_
  · rintro i x H hi ⟨sm, _, hD2⟩
    have lt : i < xs.length := (List.getElem?_eq_some_iff.mp hi).1
    refine ⟨hw x, ?_⟩
    unfold tYes
    refine ite2 (fun _ => ?_) (fun z => absurd rfl z)
    refine he x (List.mem_of_getElem? hi) H _ sm fun H4 s4 => ⟨_, s4 _ _ hD2, ?_, ?_, lt, ?_⟩
    · rw [List.length_map, List.length_replicate]
      exact Nat.lt_of_lt_of_le lt (Nat.le_trans hlen (by decide))
    · intro b o e
      rw [upd_ne (ne_of_none e hD)]
      exact s4 _ _ (sm _ _ e)
    · rw [upd_same, List.replicate_succ', List.map_append]
      rfl
  · rintro H ⟨sm, _, hD2⟩
    exact hd H sm hD2
/-- an error object whose fields f1 and f2 hold v1 and v2 -/
def Item2 (K : PySem.W.Frag) (H : Hp) (f1 f2 : Str) (v1 v2 : V) (x : V) : Prop := ∃ (e D d : Addr) (L : List (Str × V)), x = .ref e ∧ XfC K D ∧ PySem.W.findIn K (.ref D) f1 = some none ∧ PySem.W.findIn K (.ref D) f2 = some none ∧
  H e = some (exo e D (some d)) ∧ H d = some (exd d L) ∧ L.lookup f1 = some v1 ∧ L.lookup f2 = some v2
theorem Item2.same {K : PySem.W.Frag} {H H' : Hp} {f1 f2 : Str} {v1 v2 x : V} (h : Item2 K H f1 f2 v1 v2 x) (s : Same H H') : Item2 K H' f1 f2 v1 v2 x := by
  obtain ⟨e, D, d, L, h1, h2, h3, h4, h5, h6, h7⟩ := h
  exact ⟨e, D, d, L, h1, h2, h3, h4, s _ _ h5, s _ _ h6, h7⟩
theorem item_two {K : PySem.W.Frag} {H : Hp} {C e d : Addr} {f1 f2 : Str} {v1 v2 : V} (T : IniTxt K C [f1, f2]) (ne : ¬ f1 = f2) (h1 : H e = some (exo e C (some d))) (h2 : H d = some (exd d ([f1, f2].zip [v1, v2]).reverse)) : Item2 K H f1 f2 v1 v2 (.ref e) := by
  refine ⟨e, C, d, _, rfl, T.xf, T.no _ (by simp), T.no _ (by simp), h1, h2, ?_, ?_⟩
  · show ([(f2, v2), (f1, v1)] : List (Str × V)).lookup f1 = some v1
    rw [lookup_put, if_neg ne, lookup_put, if_pos rfl]
  · show ([(f2, v2), (f1, v1)] : List (Str × V)).lookup f2 = some v2
    rw [lookup_put, if_pos rfl]
theorem item_one {K : PySem.W.Frag} {H : Hp} {C e d : Addr} {f1 : Str} {v1 : V} (T : IniTxt K C [f1]) (h1 : H e = some (exo e C (some d))) (h2 : H d = some (exd d ([f1].zip [v1]).reverse)) : Item2 K H f1 f1 v1 v1 (.ref e) := by
  refine ⟨e, C, d, _, rfl, T.xf, T.no _ (by simp), T.no _ (by simp), h1, h2, ?_, ?_⟩
  · show ([(f1, v1)] : List (Str × V)).lookup f1 = some v1
    rw [lookup_put, if_pos rfl]
  · show ([(f1, v1)] : List (Str × V)).lookup f1 = some v1
    rw [lookup_put, if_pos rfl]
end Og

set_option Elab.async false
set_option linter.all false
set_option maxRecDepth 100000
set_option maxHeartbeats 8000000
namespace Og
open PySem L2
abbrev sTwo : Stmt := top 25
structure ErrsOk (P : Program) (w : World) (K : PySem.W.Frag) (mg : Str → Option Value) (base : Heap) (C : Nat → Addr) : Prop where
  e0 : ErrOk P w K mg base "BadBook" (C 0) ["what", "value"]
  e1 : ErrOk P w K mg base "Misread" (C 1) ["what", "line", "column"]
  e2 : ErrOk P w K mg base "BadRatio" (C 2) ["value"]
  e3 : ErrOk P w K mg base "BadRow" (C 3) ["what", "row"]
  e4 : ErrOk P w K mg base "BadLot" (C 4) ["what", "lot"]
  e5 : ErrOk P w K mg base "BadName" (C 5) ["name"]
  e6 : ErrOk P w K mg base "NoName" (C 6) ["name"]
  e7 : ErrOk P w K mg base "TakenName" (C 7) ["name"]
  e8 : ErrOk P w K mg base "BadNumber" (C 8) ["what", "number"]
  e9 : ErrOk P w K mg base "BadValue" (C 9) ["what", "value"]
  e10 : ErrOk P w K mg base "BadLine" (C 10) ["line", "word"]
  e11 : ErrOk P w K mg base "Unlike" (C 11) ["what"]
  e12 : ErrOk P w K mg base "TooMany" (C 12) ["what", "many", "limit"]
  e13 : ErrOk P w K mg base "NotKept" (C 13) ["promise", "witness"]
structure TwoTxt (mg : Str → Option Value) : Prop where
  all : mg "all" = none
  repr : mg "repr" = none
abbrev rRepr : List V → Hp → VK → Prop := fun xs H Q => ∃ x d, xs = [x] ∧ Gv H x d ∧ Q (.str d.shown) H
def spTwo : Sp := fun vs H Q _ => ∃ (x y : V) (d e : PyData), vs = [x, y] ∧ Gv H x d ∧ Gv H y e ∧ ∀ H', Same H H' → Q (.bl true) H'
section
variable {P : Program} {w : World} {K : PySem.W.Frag} {mg : Str → Option Value} {base : Heap}
theorem scTwo : FnScope ["a", "b", "pairs", "lots", "numbers", "rows", "names", "error"] ["a", "b"] (defScope sTwo) := ⟨rfl, rfl, rfl, by decide +kernel, rfl, by decide +kernel, by decide +kernel⟩
theorem ok_two {f : Addr} {fd : FuncData} {C : Nat → Addr} (F : Fun K "_law_of_two" "_law_of_two" sTwo f fd) (T : TwoTxt mg) (E : ErrsOk P w K mg base C) : FnOkG P w K mg base CX0 3 f fd ["a", "b"] spTwo := by
  refine fun_okG F scTwo (fun vs H Q E' h => ?_) (fun cdv A outer s H vs Q E' hG hr h => ?_)
  · obtain ⟨x, y, d, e, rfl, _⟩ := h
    rfl
  · obtain ⟨x, y, dx, dy, rfl, gx, gy, k⟩ := h
    have hu : (A.deeper (PyProof.Rows.envOfC "_law_of_two" (defScope sTwo) s.heap.objs.size f cdv)).units + 64 < cLine := hr.units
    have hr2 : Room 2 (A.deeper (PyProof.Rows.envOfC "_law_of_two" (defScope sTwo) s.heap.objs.size f cdv)) := hr
    refine ⟨_, (pss_cons (ps_set (i := 2) scTwo.nd rfl (Or.inl rfl) (pe_lst (pa_cons (pe_errP E.e0 hr2 (pa_cons (pv 1) (pa_cons (pv 0) pa_nil)))
        (pa_cons (pe_errK E.e0 hr2 (pk_cons (pv 0) (pk_cons (pv 1) pk_nil)))
        (pa_cons (pe_errP E.e9 hr2 (pa_cons (pv 1) (pa_cons (pv 0) pa_nil)))
        (pa_cons (pe_errK E.e9 hr2 (pk_cons (pv 0) (pk_cons (pv 1) pk_nil)))
        pa_nil))))))
      (pss_cons (ps_if (pt_not (pt_val (pe_callB (cr_all rfl) (by rfl) T.all (by decide +kernel) (pa_cons (pe_lc (own := [("error", 7)]) (g := gName 7) (tt := tYes) (te := tAndV (tOp rSelf (tExF K "what" (tVar 7)) (tVar 1)) (tAndV (tOp rSelf (tExF K "value" (tVar 7)) (tVar 0)) (tOp rEq (tCB rRepr (tCons (tExF K "value" (tVar 7)) tNil)) (tCB rRepr (tCons (tVar 0) tNil))))) (by rfl) scTwo.nd (pi_list (pv 2))
        (blkOk_by (own := [("error", 7)]) (N := ["a", "b", "pairs", "lots", "numbers", "rows", "names", "error"]) (sc := defScope sTwo) (by decide +kernel)) (fun _ _ _ _ _ => pg_name (i := 7) scTwo.nd rfl (Or.inl rfl)) (fun _ _ _ _ _ => pts_nil)
        (fun _ _ _ _ _ => by exact pe_and (pe_cmpR (op_self hu) (pe_exF (pv 7)) (pv 1) (nomark _)) (pe_and (pe_cmpR (op_self hu) (pe_exF (pv 7)) (pv 0) (nomark _)) (pe_one (pe_cmpR op_eq (pe_callB (call_reprG hG hu) (by rfl) T.repr (by decide +kernel) (pa_cons (pe_exF (pv 7)) pa_nil)) (pe_callB (call_reprG hG hu) (by rfl) T.repr (by decide +kernel) (pa_cons (pv 0) pa_nil)) (nomark _)))))) pa_nil)))) (pss_one (ps_ret pe_bl)) pss_nil)
      (pss_cons (ps_par (i := 3) (j := 4) rfl scTwo.nd rfl rfl (by decide) rfl rfl (pa_cons (pe_lst (pa_cons (pe_errP E.e4 hr2 (pa_cons (pv 1) (pa_cons (pv 0) pa_nil)))
        (pa_cons (pe_errK E.e4 hr2 (pk_cons (pv 0) (pk_cons (pv 1) pk_nil)))
        pa_nil))) (pa_cons (pe_lst (pa_cons (pe_errP E.e8 hr2 (pa_cons (pv 1) (pa_cons (pv 0) pa_nil)))
        (pa_cons (pe_errK E.e8 hr2 (pk_cons (pv 0) (pk_cons (pv 1) pk_nil)))
        pa_nil))) pa_nil)) (by rfl))
      (pss_cons (ps_set (i := 5) scTwo.nd rfl (Or.inl rfl) (pe_lst (pa_cons (pe_errP E.e3 hr2 (pa_cons (pv 1) (pa_cons (pv 0) pa_nil)))
        (pa_cons (pe_errK E.e3 hr2 (pk_cons (pv 0) (pk_cons (pv 1) pk_nil)))
        pa_nil))))
      (pss_cons (ps_if (PW.pt (pw_or (pt_not (pt_val (pe_callB (cr_all rfl) (by rfl) T.all (by decide +kernel) (pa_cons (pe_lc (own := [("error", 7)]) (g := gName 7) (tt := tYes) (te := tAndV (tOp rSelf (tExF K "what" (tVar 7)) (tVar 1)) (tOp rSelf (tExF K "lot" (tVar 7)) (tVar 0))) (by rfl) scTwo.nd (pi_list (pv 3))
        (blkOk_by (own := [("error", 7)]) (N := ["a", "b", "pairs", "lots", "numbers", "rows", "names", "error"]) (sc := defScope sTwo) (by decide +kernel)) (fun _ _ _ _ _ => pg_name (i := 7) scTwo.nd rfl (Or.inl rfl)) (fun _ _ _ _ _ => pts_nil)
        (fun _ _ _ _ _ => by exact pe_and (pe_cmpR (op_self hu) (pe_exF (pv 7)) (pv 1) (nomark _)) (pe_one (pe_cmpR (op_self hu) (pe_exF (pv 7)) (pv 0) (nomark _))))) pa_nil)))) (pw_or1 (pt_not (pt_val (pe_callB (cr_all rfl) (by rfl) T.all (by decide +kernel) (pa_cons (pe_lc (own := [("error", 7)]) (g := gName 7) (tt := tYes) (te := tAndV (tOp rSelf (tExF K "what" (tVar 7)) (tVar 1)) (tOp rSelf (tExF K "row" (tVar 7)) (tVar 0))) (by rfl) scTwo.nd (pi_list (pv 5))
        (blkOk_by (own := [("error", 7)]) (N := ["a", "b", "pairs", "lots", "numbers", "rows", "names", "error"]) (sc := defScope sTwo) (by decide +kernel)) (fun _ _ _ _ _ => pg_name (i := 7) scTwo.nd rfl (Or.inl rfl)) (fun _ _ _ _ _ => pts_nil)
        (fun _ _ _ _ _ => by exact pe_and (pe_cmpR (op_self hu) (pe_exF (pv 7)) (pv 1) (nomark _)) (pe_one (pe_cmpR (op_self hu) (pe_exF (pv 7)) (pv 0) (nomark _))))) pa_nil))))))) (pss_one (ps_ret pe_bl)) pss_nil)
      (pss_cons (ps_if (pt_not (pt_val (pe_callB (cr_all rfl) (by rfl) T.all (by decide +kernel) (pa_cons (pe_lc (own := [("error", 7)]) (g := gName 7) (tt := tYes) (te := tAndV (tOp rSelf (tExF K "what" (tVar 7)) (tVar 1)) (tOp rSelf (tExF K "number" (tVar 7)) (tVar 0))) (by rfl) scTwo.nd (pi_list (pv 4))
        (blkOk_by (own := [("error", 7)]) (N := ["a", "b", "pairs", "lots", "numbers", "rows", "names", "error"]) (sc := defScope sTwo) (by decide +kernel)) (fun _ _ _ _ _ => pg_name (i := 7) scTwo.nd rfl (Or.inl rfl)) (fun _ _ _ _ _ => pts_nil)
        (fun _ _ _ _ _ => by exact pe_and (pe_cmpR (op_self hu) (pe_exF (pv 7)) (pv 1) (nomark _)) (pe_one (pe_cmpR (op_self hu) (pe_exF (pv 7)) (pv 0) (nomark _))))) pa_nil)))) (pss_one (ps_ret pe_bl)) pss_nil)
      (pss_cons (ps_set (i := 6) scTwo.nd rfl (Or.inl rfl) (pe_lst (pa_cons (pe_errP E.e5 hr2 (pa_cons (pv 0) pa_nil))
        (pa_cons (pe_errK E.e5 hr2 (pk_cons (pv 0) pk_nil))
        (pa_cons (pe_errP E.e6 hr2 (pa_cons (pv 0) pa_nil))
        (pa_cons (pe_errK E.e6 hr2 (pk_cons (pv 0) pk_nil))
        (pa_cons (pe_errP E.e7 hr2 (pa_cons (pv 0) pa_nil))
        (pa_cons (pe_errK E.e7 hr2 (pk_cons (pv 0) pk_nil))
        pa_nil))))))))
      (pss_cons (ps_if (pt_not (pt_val (pe_callB (cr_all rfl) (by rfl) T.all (by decide +kernel) (pa_cons (pe_lc (own := [("error", 7)]) (g := gName 7) (tt := tYes) (te := tOp rSelf (tExF K "name" (tVar 7)) (tVar 0)) (by rfl) scTwo.nd (pi_list (pv 6))
        (blkOk_by (own := [("error", 7)]) (N := ["a", "b", "pairs", "lots", "numbers", "rows", "names", "error"]) (sc := defScope sTwo) (by decide +kernel)) (fun _ _ _ _ _ => pg_name (i := 7) scTwo.nd rfl (Or.inl rfl)) (fun _ _ _ _ _ => pts_nil)
        (fun _ _ _ _ _ => by exact pe_cmpR (op_self hu) (pe_exF (pv 7)) (pv 0) (nomark _))) pa_nil)))) (pss_one (ps_ret pe_bl)) pss_nil)
      (pss_cons (ps_if (pt_not (pt_val (pe_callB (cr_all rfl) (by rfl) T.all (by decide +kernel) (pa_cons (pe_lc (own := [("error", 7)]) (g := gName 7) (tt := tYes) (te := tOp rSelf (tExF K "what" (tVar 7)) (tVar 0)) (by rfl) scTwo.nd (pi_list (pe_lst (pa_cons (pe_errP E.e11 hr2 (pa_cons (pv 0) pa_nil))
        (pa_cons (pe_errK E.e11 hr2 (pk_cons (pv 0) pk_nil))
        pa_nil))))
        (blkOk_by (own := [("error", 7)]) (N := ["a", "b", "pairs", "lots", "numbers", "rows", "names", "error"]) (sc := defScope sTwo) (by decide +kernel)) (fun _ _ _ _ _ => pg_name (i := 7) scTwo.nd rfl (Or.inl rfl)) (fun _ _ _ _ _ => pts_nil)
        (fun _ _ _ _ _ => by exact pe_cmpR (op_self hu) (pe_exF (pv 7)) (pv 0) (nomark _))) pa_nil)))) (pss_one (ps_ret pe_bl)) pss_nil)
      (pss_one (ps_ret (pe_chain (op_self hu) (op_self hu) (pe_exF (pe_errP E.e2 hr2 (pa_cons (pv 0) pa_nil))) (pe_exF (pe_errK E.e2 hr2 (pk_cons (pv 0) pk_nil))) (pv 0))))))))))))), ?_⟩
    have c0 : Same H H := Same.refl H
    refine ⟨_, rfl, _, rfl, rfl, fun e0 d0 H0 ne0 nd0 nn0 h0 k0 s0 => ?_⟩
    have c1 : Same H H0 := c0.trans s0
    refine ⟨_, rfl, _, rfl, rfl, fun e1 d1 H1 ne1 nd1 nn1 h1 k1 s1 => ?_⟩
    have c2 : Same H H1 := c1.trans s1
    refine ⟨_, rfl, _, rfl, rfl, fun e2 d2 H2 ne2 nd2 nn2 h2 k2 s2 => ?_⟩
    have c3 : Same H H2 := c2.trans s2
    refine ⟨_, rfl, _, rfl, rfl, fun e3 d3 H3 ne3 nd3 nn3 h3 k3 s3 => ?_⟩
    have c4 : Same H H3 := c3.trans s3
    refine ⟨by show 4 ≤ sizeLine; decide, fun lp nlp => ?_⟩
    have ilp : ∀ z ∈ ([V.ref e0, V.ref e1, V.ref e2, V.ref e3] : List V), Item2 K H3 "what" "value" y x z := by
      intro z hz
      simp only [List.mem_cons, List.not_mem_nil, or_false] at hz
      rcases hz with rfl | rfl | rfl | rfl
      · exact ((((item_two E.e0.t (by decide +kernel) h0 k0).same s1).same s2).same s3)
      · exact (((item_two E.e0.t (by decide +kernel) h1 k1).same s2).same s3)
      · exact ((item_two E.e9.t (by decide +kernel) h2 k2).same s3)
      · exact (item_two E.e9.t (by decide +kernel) h3 k3)
    have c5 : Same H (upd H3 lp (.lst [V.ref e0, V.ref e1, V.ref e2, V.ref e3])) := c4.trans (Same.new nlp)
    have jlp : ∀ z ∈ ([V.ref e0, V.ref e1, V.ref e2, V.ref e3] : List V), Item2 K (upd H3 lp (.lst [V.ref e0, V.ref e1, V.ref e2, V.ref e3])) "what" "value" y x z := fun z hz => (ilp z hz).same (Same.new nlp)
    have glp : (upd H3 lp (.lst [V.ref e0, V.ref e1, V.ref e2, V.ref e3])) lp = some (.lst [V.ref e0, V.ref e1, V.ref e2, V.ref e3]) := upd_same
    have ulp5 : Same (upd H3 lp (.lst [V.ref e0, V.ref e1, V.ref e2, V.ref e3])) (upd H3 lp (.lst [V.ref e0, V.ref e1, V.ref e2, V.ref e3])) := Same.refl _
    refine ⟨_, rfl, lp, rfl, ⟨_, SqL.of (ulp5 _ _ glp)⟩, fun D0 nD0 => lc_all (K := K) (l := lp) (SqL.of (ulp5 _ _ glp)) nD0 (by show 4 ≤ 1000; decide) (fun _ => rfl) (fun z hz H3 R s3 hR => ?_) (fun HC0 sC0 qC0 => ?_)⟩
    · have gx3 := gx.same (c5.trans s3)
      have gy3 := gy.same (c5.trans s3)
      obtain ⟨e, D, d, L, rfl, XF, n1, n2, h1, h2, l1, l2⟩ := (jlp z hz).same (ulp5.trans s3)
      refine ⟨_, rfl, e, D, d, L, _, rfl, XF, n1, h1, h2, l1, _, rfl, rfl, ⟨_, gy3⟩, true, rfl, iteT ⟨_, rfl, e, D, d, L, _, rfl, XF, n2, h1, h2, l2, _, rfl, rfl, ⟨_, gx3⟩, true, rfl, iteT ⟨_, rfl, e, D, d, L, _, rfl, XF, n2, h1, h2, l2, _, _, rfl, gx3, _, rfl, _, _, rfl, gx3, rfl, ?_⟩⟩⟩
      rw [decide_eq_true rfl]
      exact hR H3 (Same.refl _)
    have c6 : Same H HC0 := c5.trans sC0
    have ulp6 : Same (upd H3 lp (.lst [V.ref e0, V.ref e1, V.ref e2, V.ref e3])) HC0 := ulp5.trans sC0
    refine ⟨D0, _, rfl, SqL.of qC0, _, rfl, ite2 (fun z => Bool.noConfusion (show false = true from z)) (fun _ => ?_)⟩
    refine ⟨_, rfl, _, rfl, rfl, fun e4 d4 H4 ne4 nd4 nn4 h4 k4 s4 => ?_⟩
    have c7 : Same H H4 := c6.trans s4
    refine ⟨_, rfl, _, rfl, rfl, fun e5 d5 H5 ne5 nd5 nn5 h5 k5 s5 => ?_⟩
    have c8 : Same H H5 := c7.trans s5
    refine ⟨by show 2 ≤ sizeLine; decide, fun ll nll => ?_⟩
    have ill : ∀ z ∈ ([V.ref e4, V.ref e5] : List V), Item2 K H5 "what" "lot" y x z := by
      intro z hz
      simp only [List.mem_cons, List.not_mem_nil, or_false] at hz
      rcases hz with rfl | rfl
      · exact ((item_two E.e4.t (by decide +kernel) h4 k4).same s5)
      · exact (item_two E.e4.t (by decide +kernel) h5 k5)
    have c9 : Same H (upd H5 ll (.lst [V.ref e4, V.ref e5])) := c8.trans (Same.new nll)
    have jll : ∀ z ∈ ([V.ref e4, V.ref e5] : List V), Item2 K (upd H5 ll (.lst [V.ref e4, V.ref e5])) "what" "lot" y x z := fun z hz => (ill z hz).same (Same.new nll)
    have gll : (upd H5 ll (.lst [V.ref e4, V.ref e5])) ll = some (.lst [V.ref e4, V.ref e5]) := upd_same
    have ull9 : Same (upd H5 ll (.lst [V.ref e4, V.ref e5])) (upd H5 ll (.lst [V.ref e4, V.ref e5])) := Same.refl _
    refine ⟨_, rfl, _, rfl, rfl, fun e6 d6 H6 ne6 nd6 nn6 h6 k6 s6 => ?_⟩
    have c10 : Same H H6 := c9.trans s6
    have ull10 : Same (upd H5 ll (.lst [V.ref e4, V.ref e5])) H6 := ull9.trans s6
    refine ⟨_, rfl, _, rfl, rfl, fun e7 d7 H7 ne7 nd7 nn7 h7 k7 s7 => ?_⟩
    have c11 : Same H H7 := c10.trans s7
    have ull11 : Same (upd H5 ll (.lst [V.ref e4, V.ref e5])) H7 := ull10.trans s7
    refine ⟨by show 2 ≤ sizeLine; decide, fun ln nln => ?_⟩
    have iln : ∀ z ∈ ([V.ref e6, V.ref e7] : List V), Item2 K H7 "what" "number" y x z := by
      intro z hz
      simp only [List.mem_cons, List.not_mem_nil, or_false] at hz
      rcases hz with rfl | rfl
      · exact ((item_two E.e8.t (by decide +kernel) h6 k6).same s7)
      · exact (item_two E.e8.t (by decide +kernel) h7 k7)
    have c12 : Same H (upd H7 ln (.lst [V.ref e6, V.ref e7])) := c11.trans (Same.new nln)
    have ull12 : Same (upd H5 ll (.lst [V.ref e4, V.ref e5])) (upd H7 ln (.lst [V.ref e6, V.ref e7])) := ull11.trans (Same.new nln)
    have jln : ∀ z ∈ ([V.ref e6, V.ref e7] : List V), Item2 K (upd H7 ln (.lst [V.ref e6, V.ref e7])) "what" "number" y x z := fun z hz => (iln z hz).same (Same.new nln)
    have gln : (upd H7 ln (.lst [V.ref e6, V.ref e7])) ln = some (.lst [V.ref e6, V.ref e7]) := upd_same
    have uln12 : Same (upd H7 ln (.lst [V.ref e6, V.ref e7])) (upd H7 ln (.lst [V.ref e6, V.ref e7])) := Same.refl _
    refine ⟨_, _, rfl, ?_⟩
    refine ⟨_, rfl, _, rfl, rfl, fun e8 d8 H8 ne8 nd8 nn8 h8 k8 s8 => ?_⟩
    have c13 : Same H H8 := c12.trans s8
    have ull13 : Same (upd H5 ll (.lst [V.ref e4, V.ref e5])) H8 := ull12.trans s8
    have uln13 : Same (upd H7 ln (.lst [V.ref e6, V.ref e7])) H8 := uln12.trans s8
    refine ⟨_, rfl, _, rfl, rfl, fun e9 d9 H9 ne9 nd9 nn9 h9 k9 s9 => ?_⟩
    have c14 : Same H H9 := c13.trans s9
    have ull14 : Same (upd H5 ll (.lst [V.ref e4, V.ref e5])) H9 := ull13.trans s9
    have uln14 : Same (upd H7 ln (.lst [V.ref e6, V.ref e7])) H9 := uln13.trans s9
    refine ⟨by show 2 ≤ sizeLine; decide, fun lr nlr => ?_⟩
    have ilr : ∀ z ∈ ([V.ref e8, V.ref e9] : List V), Item2 K H9 "what" "row" y x z := by
      intro z hz
      simp only [List.mem_cons, List.not_mem_nil, or_false] at hz
      rcases hz with rfl | rfl
      · exact ((item_two E.e3.t (by decide +kernel) h8 k8).same s9)
      · exact (item_two E.e3.t (by decide +kernel) h9 k9)
    have c15 : Same H (upd H9 lr (.lst [V.ref e8, V.ref e9])) := c14.trans (Same.new nlr)
    have ull15 : Same (upd H5 ll (.lst [V.ref e4, V.ref e5])) (upd H9 lr (.lst [V.ref e8, V.ref e9])) := ull14.trans (Same.new nlr)
    have uln15 : Same (upd H7 ln (.lst [V.ref e6, V.ref e7])) (upd H9 lr (.lst [V.ref e8, V.ref e9])) := uln14.trans (Same.new nlr)
    have jlr : ∀ z ∈ ([V.ref e8, V.ref e9] : List V), Item2 K (upd H9 lr (.lst [V.ref e8, V.ref e9])) "what" "row" y x z := fun z hz => (ilr z hz).same (Same.new nlr)
    have glr : (upd H9 lr (.lst [V.ref e8, V.ref e9])) lr = some (.lst [V.ref e8, V.ref e9]) := upd_same
    have ulr15 : Same (upd H9 lr (.lst [V.ref e8, V.ref e9])) (upd H9 lr (.lst [V.ref e8, V.ref e9])) := Same.refl _
    refine ⟨_, rfl, ll, rfl, ⟨_, SqL.of (ull15 _ _ gll)⟩, fun D1 nD1 => lc_all (K := K) (l := ll) (SqL.of (ull15 _ _ gll)) nD1 (by show 2 ≤ 1000; decide) (fun _ => rfl) (fun z hz H3 R s3 hR => ?_) (fun HC1 sC1 qC1 => ?_)⟩
    · have gx3 := gx.same (c15.trans s3)
      have gy3 := gy.same (c15.trans s3)
      obtain ⟨e, D, d, L, rfl, XF, n1, n2, h1, h2, l1, l2⟩ := (jll z hz).same (ull15.trans s3)
      exact ⟨_, rfl, e, D, d, L, _, rfl, XF, n1, h1, h2, l1, _, rfl, rfl, ⟨_, gy3⟩, true, rfl, iteT ⟨_, rfl, e, D, d, L, _, rfl, XF, n2, h1, h2, l2, _, rfl, rfl, ⟨_, gx3⟩, hR H3 (Same.refl _)⟩⟩
    have c16 : Same H HC1 := c15.trans sC1
    have ull16 : Same (upd H5 ll (.lst [V.ref e4, V.ref e5])) HC1 := ull15.trans sC1
    have uln16 : Same (upd H7 ln (.lst [V.ref e6, V.ref e7])) HC1 := uln15.trans sC1
    have ulr16 : Same (upd H9 lr (.lst [V.ref e8, V.ref e9])) HC1 := ulr15.trans sC1
    refine ⟨D1, _, rfl, SqL.of qC1, _, rfl, ite2 (fun z => Bool.noConfusion (show false = true from z)) (fun _ => ?_)⟩
    refine ⟨_, rfl, lr, rfl, ⟨_, SqL.of (ulr16 _ _ glr)⟩, fun D2 nD2 => lc_all (K := K) (l := lr) (SqL.of (ulr16 _ _ glr)) nD2 (by show 2 ≤ 1000; decide) (fun _ => rfl) (fun z hz H3 R s3 hR => ?_) (fun HC2 sC2 qC2 => ?_)⟩
    · have gx3 := gx.same (c16.trans s3)
      have gy3 := gy.same (c16.trans s3)
      obtain ⟨e, D, d, L, rfl, XF, n1, n2, h1, h2, l1, l2⟩ := (jlr z hz).same (ulr16.trans s3)
      exact ⟨_, rfl, e, D, d, L, _, rfl, XF, n1, h1, h2, l1, _, rfl, rfl, ⟨_, gy3⟩, true, rfl, iteT ⟨_, rfl, e, D, d, L, _, rfl, XF, n2, h1, h2, l2, _, rfl, rfl, ⟨_, gx3⟩, hR H3 (Same.refl _)⟩⟩
    have c17 : Same H HC2 := c16.trans sC2
    have uln17 : Same (upd H7 ln (.lst [V.ref e6, V.ref e7])) HC2 := uln16.trans sC2
    have ulr17 : Same (upd H9 lr (.lst [V.ref e8, V.ref e9])) HC2 := ulr16.trans sC2
    refine ⟨D2, _, rfl, SqL.of qC2, _, rfl, ite2 (fun z => Bool.noConfusion (show false = true from z)) (fun _ => ?_)⟩
    refine ⟨_, rfl, ln, rfl, ⟨_, SqL.of (uln17 _ _ gln)⟩, fun D3 nD3 => lc_all (K := K) (l := ln) (SqL.of (uln17 _ _ gln)) nD3 (by show 2 ≤ 1000; decide) (fun _ => rfl) (fun z hz H3 R s3 hR => ?_) (fun HC3 sC3 qC3 => ?_)⟩
    · have gx3 := gx.same (c17.trans s3)
      have gy3 := gy.same (c17.trans s3)
      obtain ⟨e, D, d, L, rfl, XF, n1, n2, h1, h2, l1, l2⟩ := (jln z hz).same (uln17.trans s3)
      exact ⟨_, rfl, e, D, d, L, _, rfl, XF, n1, h1, h2, l1, _, rfl, rfl, ⟨_, gy3⟩, true, rfl, iteT ⟨_, rfl, e, D, d, L, _, rfl, XF, n2, h1, h2, l2, _, rfl, rfl, ⟨_, gx3⟩, hR H3 (Same.refl _)⟩⟩
    have c18 : Same H HC3 := c17.trans sC3
    have uln18 : Same (upd H7 ln (.lst [V.ref e6, V.ref e7])) HC3 := uln17.trans sC3
    refine ⟨D3, _, rfl, SqL.of qC3, _, rfl, ite2 (fun z => Bool.noConfusion (show false = true from z)) (fun _ => ?_)⟩
    refine ⟨_, rfl, rfl, fun e10 d10 H10 ne10 nd10 nn10 h10 k10 s10 => ?_⟩
    have c19 : Same H H10 := c18.trans s10
    refine ⟨_, rfl, rfl, fun e11 d11 H11 ne11 nd11 nn11 h11 k11 s11 => ?_⟩
    have c20 : Same H H11 := c19.trans s11
    refine ⟨_, rfl, rfl, fun e12 d12 H12 ne12 nd12 nn12 h12 k12 s12 => ?_⟩
    have c21 : Same H H12 := c20.trans s12
    refine ⟨_, rfl, rfl, fun e13 d13 H13 ne13 nd13 nn13 h13 k13 s13 => ?_⟩
    have c22 : Same H H13 := c21.trans s13
    refine ⟨_, rfl, rfl, fun e14 d14 H14 ne14 nd14 nn14 h14 k14 s14 => ?_⟩
    have c23 : Same H H14 := c22.trans s14
    refine ⟨_, rfl, rfl, fun e15 d15 H15 ne15 nd15 nn15 h15 k15 s15 => ?_⟩
    have c24 : Same H H15 := c23.trans s15
    refine ⟨by show 6 ≤ sizeLine; decide, fun lm nlm => ?_⟩
    have ilm : ∀ z ∈ ([V.ref e10, V.ref e11, V.ref e12, V.ref e13, V.ref e14, V.ref e15] : List V), Item2 K H15 "name" "name" x x z := by
      intro z hz
      simp only [List.mem_cons, List.not_mem_nil, or_false] at hz
      rcases hz with rfl | rfl | rfl | rfl | rfl | rfl
      · exact ((((((item_one E.e5.t h10 k10).same s11).same s12).same s13).same s14).same s15)
      · exact (((((item_one E.e5.t h11 k11).same s12).same s13).same s14).same s15)
      · exact ((((item_one E.e6.t h12 k12).same s13).same s14).same s15)
      · exact (((item_one E.e6.t h13 k13).same s14).same s15)
      · exact ((item_one E.e7.t h14 k14).same s15)
      · exact (item_one E.e7.t h15 k15)
    have c25 : Same H (upd H15 lm (.lst [V.ref e10, V.ref e11, V.ref e12, V.ref e13, V.ref e14, V.ref e15])) := c24.trans (Same.new nlm)
    have jlm : ∀ z ∈ ([V.ref e10, V.ref e11, V.ref e12, V.ref e13, V.ref e14, V.ref e15] : List V), Item2 K (upd H15 lm (.lst [V.ref e10, V.ref e11, V.ref e12, V.ref e13, V.ref e14, V.ref e15])) "name" "name" x x z := fun z hz => (ilm z hz).same (Same.new nlm)
    have glm : (upd H15 lm (.lst [V.ref e10, V.ref e11, V.ref e12, V.ref e13, V.ref e14, V.ref e15])) lm = some (.lst [V.ref e10, V.ref e11, V.ref e12, V.ref e13, V.ref e14, V.ref e15]) := upd_same
    have ulm25 : Same (upd H15 lm (.lst [V.ref e10, V.ref e11, V.ref e12, V.ref e13, V.ref e14, V.ref e15])) (upd H15 lm (.lst [V.ref e10, V.ref e11, V.ref e12, V.ref e13, V.ref e14, V.ref e15])) := Same.refl _
    refine ⟨_, rfl, lm, rfl, ⟨_, SqL.of (ulm25 _ _ glm)⟩, fun D4 nD4 => lc_all (K := K) (l := lm) (SqL.of (ulm25 _ _ glm)) nD4 (by show 6 ≤ 1000; decide) (fun _ => rfl) (fun z hz H3 R s3 hR => ?_) (fun HC4 sC4 qC4 => ?_)⟩
    · have gx3 := gx.same (c25.trans s3)
      have gy3 := gy.same (c25.trans s3)
      obtain ⟨e, D, d, L, rfl, XF, n1, n2, h1, h2, l1, l2⟩ := (jlm z hz).same (ulm25.trans s3)
      exact ⟨_, rfl, e, D, d, L, _, rfl, XF, n1, h1, h2, l1, _, rfl, rfl, ⟨_, gx3⟩, hR H3 (Same.refl _)⟩
    have c26 : Same H HC4 := c25.trans sC4
    have ulm26 : Same (upd H15 lm (.lst [V.ref e10, V.ref e11, V.ref e12, V.ref e13, V.ref e14, V.ref e15])) HC4 := ulm25.trans sC4
    refine ⟨D4, _, rfl, SqL.of qC4, _, rfl, ite2 (fun z => Bool.noConfusion (show false = true from z)) (fun _ => ?_)⟩
    refine ⟨_, rfl, rfl, fun e16 d16 H16 ne16 nd16 nn16 h16 k16 s16 => ?_⟩
    have c27 : Same H H16 := c26.trans s16
    refine ⟨_, rfl, rfl, fun e17 d17 H17 ne17 nd17 nn17 h17 k17 s17 => ?_⟩
    have c28 : Same H H17 := c27.trans s17
    refine ⟨by show 2 ≤ sizeLine; decide, fun lu nlu => ?_⟩
    have ilu : ∀ z ∈ ([V.ref e16, V.ref e17] : List V), Item2 K H17 "what" "what" x x z := by
      intro z hz
      simp only [List.mem_cons, List.not_mem_nil, or_false] at hz
      rcases hz with rfl | rfl
      · exact ((item_one E.e11.t h16 k16).same s17)
      · exact (item_one E.e11.t h17 k17)
    have c29 : Same H (upd H17 lu (.lst [V.ref e16, V.ref e17])) := c28.trans (Same.new nlu)
    have jlu : ∀ z ∈ ([V.ref e16, V.ref e17] : List V), Item2 K (upd H17 lu (.lst [V.ref e16, V.ref e17])) "what" "what" x x z := fun z hz => (ilu z hz).same (Same.new nlu)
    have glu : (upd H17 lu (.lst [V.ref e16, V.ref e17])) lu = some (.lst [V.ref e16, V.ref e17]) := upd_same
    have ulu29 : Same (upd H17 lu (.lst [V.ref e16, V.ref e17])) (upd H17 lu (.lst [V.ref e16, V.ref e17])) := Same.refl _
    refine ⟨lu, rfl, ⟨_, SqL.of (ulu29 _ _ glu)⟩, fun D5 nD5 => lc_all (K := K) (l := lu) (SqL.of (ulu29 _ _ glu)) nD5 (by show 2 ≤ 1000; decide) (fun _ => rfl) (fun z hz H3 R s3 hR => ?_) (fun HC5 sC5 qC5 => ?_)⟩
    · have gx3 := gx.same (c29.trans s3)
      have gy3 := gy.same (c29.trans s3)
      obtain ⟨e, D, d, L, rfl, XF, n1, n2, h1, h2, l1, l2⟩ := (jlu z hz).same (ulu29.trans s3)
      exact ⟨_, rfl, e, D, d, L, _, rfl, XF, n1, h1, h2, l1, _, rfl, rfl, ⟨_, gx3⟩, hR H3 (Same.refl _)⟩
    have c30 : Same H HC5 := c29.trans sC5
    have ulu30 : Same (upd H17 lu (.lst [V.ref e16, V.ref e17])) HC5 := ulu29.trans sC5
    refine ⟨D5, _, rfl, SqL.of qC5, _, rfl, ite2 (fun z => Bool.noConfusion (show false = true from z)) (fun _ => ?_)⟩
    refine ⟨_, rfl, rfl, fun e18 d18 H18 ne18 nd18 nn18 h18 k18 s18 => ?_⟩
    have c31 : Same H H18 := c30.trans s18
    obtain ⟨eA, DA, dA, LA, zA, XFA, nA1, _, hA1, hA2, lA1, _⟩ := item_one E.e2.t h18 k18
    cases zA
    refine ⟨_, DA, dA, LA, _, rfl, XFA, nA1, hA1, hA2, lA1, ?_⟩
    refine ⟨_, rfl, rfl, fun e19 d19 H19 ne19 nd19 nn19 h19 k19 s19 => ?_⟩
    have c32 : Same H H19 := c31.trans s19
    obtain ⟨eB, DB, dB, LB, zB, XFB, nB1, _, hB1, hB2, lB1, _⟩ := item_one E.e2.t h19 k19
    cases zB
    have gxe := gx.same c32
    exact ⟨_, DB, dB, LB, _, rfl, XFB, nB1, hB1, hB2, lB1, rfl, ⟨_, gxe⟩, true, rfl, iteT ⟨_, rfl, rfl, ⟨_, gxe⟩, k _ c32⟩⟩
end
end Og

set_option Elab.async false
set_option linter.all false
set_option maxRecDepth 100000
set_option maxHeartbeats 16000000
namespace Og
open PySem L2
abbrev sLaw : Stmt := top 26
/-- the field f of the error at e holds v -/
def FldAt (K : PySem.W.Frag) (H : Hp) (e : Addr) (f : Str) (v : V) : Prop := ∃ (D d : Addr) (L : List (Str × V)), XfC K D ∧ PySem.W.findIn K (.ref D) f = some none ∧ H e = some (exo e D (some d)) ∧ H d = some (exd d L) ∧ L.lookup f = some v
theorem FldAt.same {K : PySem.W.Frag} {H H' : Hp} {e : Addr} {f : Str} {v : V} (h : FldAt K H e f v) (s : Same H H') : FldAt K H' e f v := by
  obtain ⟨D, d, L, h1, h2, h3, h4, h5⟩ := h
  exact ⟨D, d, L, h1, h2, s _ _ h3, s _ _ h4, h5⟩
theorem fld_of {K : PySem.W.Frag} {H : Hp} {e C d : Addr} {fs : List Str} {vs : List V} {f : Str} {v : V} (T : IniTxt K C fs) (h : H e = some (exo e C (some d))) (k : H d = some (exd d (fs.zip vs).reverse)) (m : f ∈ fs) (l : (fs.zip vs).reverse.lookup f = some v) : FldAt K H e f v :=
  ⟨C, d, _, T.xf, T.no _ m, h, k, l⟩
theorem exAt_of {H : Hp} {e C d : Addr} {L : List (Str × V)} (h : H e = some (exo e C (some d))) (k : H d = some (exd d L)) : ExAt H e C := ⟨some d, h, fun dd z => by cases z; exact ⟨L, k⟩⟩
theorem exAt_new {H : Hp} {e C : Addr} : ExAt (upd H e (exo e C none)) e C := ⟨none, upd_same, fun dd z => by cases z⟩
structure LawTxt (K : PySem.W.Frag) (mg : Str → Option Value) (C : Nat → Addr) (G fP fV fO fC fT : Addr) : Prop where
  p : PenTxt mg
  e : ErrTxt K mg C
  range : mg "range" = none
  ve : mg "ValueError" = none
  ke : mg "KeyError" = none
  gG : mg "GroundError" = some (.ref G)
  gP : mg "_law_pen" = some (.ref fP)
  kP : PySem.W.keepIn K (.ref fP) = true
  gV : mg "_law_value_of" = some (.ref fV)
  kV : PySem.W.keepIn K (.ref fV) = true
  gO : mg "_law_own" = some (.ref fO)
  kO : PySem.W.keepIn K (.ref fO) = true
  gC : mg "_law_caught" = some (.ref fC)
  kC : PySem.W.keepIn K (.ref fC) = true
  gT : mg "_law_of_two" = some (.ref fT)
  kT : PySem.W.keepIn K (.ref fT) = true
  ex14 : PySem.W.excIn K (C 14) [.type "ValueError", .type "Exception", .type "BaseException", .type "object"] "ValueError.__new__" = true
  ex15 : PySem.W.excIn K (C 15) [.type "ValueError", .type "Exception", .type "BaseException", .type "object"] "ValueError.__new__" = true
  exG : PySem.W.excIn K G [.type "ValueError", .type "Exception", .type "BaseException", .type "object"] "ValueError.__new__" = true
  k14 : PySem.W.keepIn K (.ref (C 14)) = true
  k15 : PySem.W.keepIn K (.ref (C 15)) = true
  kG : PySem.W.keepIn K (.ref G) = true
  tab : ∀ i, i < 16 → IsTab K C (C i) fun j => decide (j = i)
  tabG : IsTab K C G fun _ => false
  isG : ∀ i, i < 16 → PySem.W.kitOne K (.ref (C i)) (.ref G) = some true
  isV : ∀ i, i < 16 → PySem.W.kitOne K (.ref (C i)) (.type "ValueError") = some true
  isK : PySem.W.kitOne K (.ref G) (.type "KeyError") = some false
theorem own_one : ∀ i, i < 16 → (List.range 16).filter (fun j => decide (j = i)) = [i] := by decide
theorem own_none : (List.range 16).filter (fun _ => false) = [] := by decide
def spLaw (K : PySem.W.Frag) : Sp := fun vs H Q _ => ∃ (a : Addr) (ns : List Int), vs = [.ref a] ∧ SqL K H a (ns.map V.int) ∧ ns.length ≤ 63 ∧ ∀ H', Q (.bl true) H'
section
variable {P : Program} {w : World} {K : PySem.W.Frag} {mg : Str → Option Value} {base : Heap}
theorem scLaw : FnScope ["script", "pen", "a", "b", "c", "line", "other", "many", "more", "read", "seen", "kept", "said", "every", "at"] ["script"] (defScope sLaw) := ⟨rfl, rfl, rfl, by decide +kernel, rfl, by decide +kernel, by decide +kernel⟩
theorem ok_law {f fP fV fO fC fT fD fK G : Addr} {fd fdP fdV fdO fdC fdT fdD fdK : FuncData} {C : Nat → Addr} (F : Fun K "law" "law" sLaw f fd) (T : LawTxt K mg C G fP fV fO fC fT) (VT : ValTxt K mg fD fK) (CT : CaughtTxt K mg C G) (TT : TwoTxt mg) (E : ErrsOk P w K mg base C)
    (FP : Fun K "_law_pen" "_law_pen" sPen fP fdP) (bP : Binds K fdP ["script"] []) (FD : Fun K "_law_draw" "_law_draw" sDraw fD fdD) (bD : Binds K fdD ["pen", "many"] []) (FK : Fun K "_law_pick" "_law_pick" sPick fK fdK) (bK : Binds K fdK ["pen", "some"] [])
    (FV : Fun K "_law_value_of" "_law_value_of" sVal fV fdV) (bV : Binds K fdV ["pen"] []) (FO : Fun K "_law_own" "_law_own" sOwn fO fdO) (bO : Binds K fdO ["error"] []) (FC : Fun K "_law_caught" "_law_caught" sCaught fC fdC) (bC : Binds K fdC ["value"] [])
    (FT : Fun K "_law_of_two" "_law_of_two" sTwo fT fdT) (bT : Binds K fdT ["a", "b"] []) : FnOkG P w K mg base CX0 5 f fd ["script"] (spLaw K) := by
  have GP : FnOk P w K mg base CX0 1 fP fdP ["script"] (spPen K) := ok_pen FP T.p
  have GV : FnOk P w K mg base CX0 3 fV fdV ["pen"] spVal := ok_val FV VT FD bD FK bK
  have GO : FnOk P w K mg base CX0 1 fO fdO ["error"] (spOwn K C) := ok_own FO T.e
  have GC : FnOk P w K mg base CX0 3 fC fdC ["value"] spCaught := ok_caught FC CT E.e12
  have GT : FnOkG P w K mg base CX0 3 fT fdT ["a", "b"] spTwo := ok_two FT TT E
  refine fun_okG F scLaw (fun vs H Q E' h => ?_) (fun cdv A outer s H vs Q E' hG hr h => ?_)
  · obtain ⟨a, ns, rfl, _⟩ := h
    rfl
  · obtain ⟨a0, ns, rfl, hS, hlen, k⟩ := h
    have hu : (A.deeper (PyProof.Rows.envOfC "law" (defScope sLaw) s.heap.objs.size f cdv)).units + 64 < cLine := hr.units
    have hr1 : Room 1 (A.deeper (PyProof.Rows.envOfC "law" (defScope sLaw) s.heap.objs.size f cdv)) := hr.mono (by decide)
    have hr2 : Room 2 (A.deeper (PyProof.Rows.envOfC "law" (defScope sLaw) s.heap.objs.size f cdv)) := hr.mono (by decide)
    have hr3 : Room 3 (A.deeper (PyProof.Rows.envOfC "law" (defScope sLaw) s.heap.objs.size f cdv)) := hr.mono (by decide)
    refine ⟨_, (pss_cons (ps_set (i := 1) scLaw.nd rfl (Or.inl rfl) (pe_call GP hr1 rfl T.gP T.kP bP .nil pass0 (pa_cons (pv 0) pa_nil)))
      (pss_cons (ps_par3 (i := 2) (j := 3) (l := 4) rfl scLaw.nd rfl rfl rfl (by decide) (by decide) (by decide) rfl rfl rfl (pa_cons (pe_call GV hr3 rfl T.gV T.kV bV .nil pass0 (pa_cons (pv 1) pa_nil)) (pa_cons (pe_call GV hr3 rfl T.gV T.kV bV .nil pass0 (pa_cons (pv 1) pa_nil)) (pa_cons (pe_call GV hr3 rfl T.gV T.kV bV .nil pass0 (pa_cons (pv 1) pa_nil)) pa_nil))) (by rfl))
      (pss_cons (ps_if (PW.pt (pw_or (pt_not (pt_val (pe_callG GT hG hr3 rfl T.gT T.kT bT .nil pass0 (pa_cons (pv 2) (pa_cons (pv 3) pa_nil))))) (pw_or1 (pt_not (pt_val (pe_call GC hr3 rfl T.gC T.kC bC .nil pass0 (pa_cons (pv 2) pa_nil))))))) (pss_one (ps_ret pe_bl)) pss_nil)
      (pss_cons (ps_par (i := 5) (j := 6) rfl scLaw.nd rfl rfl (by decide) rfl rfl (pa_cons (pe_errP E.e10 hr2 (pa_cons (pv 2)
        (pa_cons (pv 3)
        pa_nil))) (pa_cons (pe_errK E.e10 hr2 (pk_cons (pv 3)
        (pk_cons (pv 2)
        pk_nil))) pa_nil)) (by rfl))
      (pss_cons (ps_if (pt_cmpR (op_neTup hu) (pe_tup (pa_cons (pe_exF (pv 5))
        (pa_cons (pe_exF (pv 5))
        (pa_cons (pe_exF (pv 6))
        (pa_cons (pe_exF (pv 6))
        pa_nil))))) (pe_tup (pa_cons (pv 2)
        (pa_cons (pv 3)
        (pa_cons (pv 2)
        (pa_cons (pv 3)
        pa_nil))))) (nomark _)) (pss_one (ps_ret pe_bl)) pss_nil)
      (pss_cons (ps_par (i := 7) (j := 8) rfl scLaw.nd rfl rfl (by decide) rfl rfl (pa_cons (pe_errP E.e12 hr2 (pa_cons (pv 2)
        (pa_cons (pv 3)
        (pa_cons (pv 4)
        pa_nil)))) (pa_cons (pe_errK E.e12 hr2 (pk_cons (pv 4)
        (pk_cons (pv 3)
        (pk_cons (pv 2)
        pk_nil)))) pa_nil)) (by rfl))
      (pss_cons (ps_if (PW.pt (pw_or (pt_cmpR (op_neTup hu) (pe_tup (pa_cons (pe_exF (pv 7))
        (pa_cons (pe_exF (pv 7))
        (pa_cons (pe_exF (pv 7))
        pa_nil)))) (pe_tup (pa_cons (pv 2)
        (pa_cons (pv 3)
        (pa_cons (pv 4)
        pa_nil)))) (nomark _)) (pw_or1 (pt_cmpR (op_neTup hu) (pe_tup (pa_cons (pe_exF (pv 8))
        (pa_cons (pe_exF (pv 8))
        (pa_cons (pe_exF (pv 8))
        pa_nil)))) (pe_tup (pa_cons (pv 2)
        (pa_cons (pv 3)
        (pa_cons (pv 4)
        pa_nil)))) (nomark _))))) (pss_one (ps_ret pe_bl)) pss_nil)
      (pss_cons (ps_par (i := 9) (j := 10) rfl scLaw.nd rfl rfl (by decide) rfl rfl (pa_cons (pe_errP E.e1 hr2 (pa_cons (pv 2)
        (pa_cons (pv 3)
        (pa_cons (pv 4)
        pa_nil)))) (pa_cons (pe_errK E.e1 hr2 (pk_cons (pv 4)
        (pk_cons (pv 3)
        (pk_cons (pv 2)
        pk_nil)))) pa_nil)) (by rfl))
      (pss_cons (ps_if (PW.pt (pw_or (pt_cmpR (op_neTup hu) (pe_tup (pa_cons (pe_exF (pv 9))
        (pa_cons (pe_exF (pv 9))
        (pa_cons (pe_exF (pv 9))
        pa_nil)))) (pe_tup (pa_cons (pv 2)
        (pa_cons (pv 3)
        (pa_cons (pv 4)
        pa_nil)))) (nomark _)) (pw_or1 (pt_cmpR (op_neTup hu) (pe_tup (pa_cons (pe_exF (pv 10))
        (pa_cons (pe_exF (pv 10))
        (pa_cons (pe_exF (pv 10))
        pa_nil)))) (pe_tup (pa_cons (pv 2)
        (pa_cons (pv 3)
        (pa_cons (pv 4)
        pa_nil)))) (nomark _))))) (pss_one (ps_ret pe_bl)) pss_nil)
      (pss_cons (ps_par (i := 11) (j := 12) rfl scLaw.nd rfl rfl (by decide) rfl rfl (pa_cons (pe_errP E.e13 hr2 (pa_cons (pv 2)
        (pa_cons (pv 3)
        pa_nil))) (pa_cons (pe_errK E.e13 hr2 (pk_cons (pv 3)
        (pk_cons (pv 2)
        pk_nil))) pa_nil)) (by rfl))
      (pss_cons (ps_if (pt_cmpR (op_neTup hu) (pe_tup (pa_cons (pe_exF (pv 11))
        (pa_cons (pe_exF (pv 11))
        (pa_cons (pe_exF (pv 12))
        (pa_cons (pe_exF (pv 12))
        pa_nil))))) (pe_tup (pa_cons (pv 2)
        (pa_cons (pv 3)
        (pa_cons (pv 2)
        (pa_cons (pv 3)
        pa_nil))))) (nomark _)) (pss_one (ps_ret pe_bl)) pss_nil)
      (pss_cons (ps_set (i := 13) scLaw.nd rfl (Or.inl rfl) (pe_lst (pa_cons (pe_errP E.e0 hr2 (pa_cons (pv 2)
        (pa_cons (pv 3)
        pa_nil)))
        (pa_cons (pv 9)
        (pa_cons (pe_errP E.e2 hr2 (pa_cons (pv 2)
        pa_nil))
        (pa_cons (pe_errP E.e3 hr2 (pa_cons (pv 2)
        (pa_cons (pv 3)
        pa_nil)))
        (pa_cons (pe_errP E.e4 hr2 (pa_cons (pv 2)
        (pa_cons (pv 3)
        pa_nil)))
        (pa_cons (pe_errP E.e5 hr2 (pa_cons (pv 2)
        pa_nil))
        (pa_cons (pe_errP E.e6 hr2 (pa_cons (pv 2)
        pa_nil))
        (pa_cons (pe_errP E.e7 hr2 (pa_cons (pv 2)
        pa_nil))
        (pa_cons (pe_errP E.e8 hr2 (pa_cons (pv 2)
        (pa_cons (pv 3)
        pa_nil)))
        (pa_cons (pe_errP E.e9 hr2 (pa_cons (pv 2)
        (pa_cons (pv 3)
        pa_nil)))
        (pa_cons (pv 5)
        (pa_cons (pe_errP E.e11 hr2 (pa_cons (pv 2)
        pa_nil))
        (pa_cons (pv 7)
        (pa_cons (pv 11)
        (pa_cons (pe_exc0 T.ex14 T.e.g14 T.k14 rfl)
        (pa_cons (pe_exc0 T.ex15 T.e.g15 T.k15 rfl)
        pa_nil))))))))))))))))))
      (pss_cons (ps_for PassesOwn.never rfl (pi_range1 rfl T.range (pa_cons (pe_callB call_len_seq (by rfl) T.p.len PySem.boot_len (pa_cons (pv 13) pa_nil)) pa_nil)) (pg_name (i := 14) scLaw.nd rfl (Or.inl rfl))
        (pss_one (ps_if (PW.pt (pw_or (pt_cmpR (op_neD hu) (pe_call GO hr1 rfl T.gO T.kO bO .nil pass0 (pa_cons (pe_ix ix_list (pv 13) (pv 14) (fun _ _ => rfl)) pa_nil)) (pe_lst (pa_cons (pv 14) pa_nil)) (nomark _)) (pw_or (pt_not (pt_val (pe_callB call_isV (by rfl) T.e.isi (by decide +kernel) (pa_cons (pe_ix ix_list (pv 13) (pv 14) (fun _ _ => rfl)) (pa_cons (pe_glob (v := .ref G) rfl T.gG rfl) pa_nil))))) (pw_or1 (pt_not (pt_val (pe_callB call_isV (by rfl) T.e.isi (by decide +kernel) (pa_cons (pe_ix ix_list (pv 13) (pv 14) (fun _ _ => rfl)) (pa_cons (pe_bltn (v := .ty "ValueError") (by rfl) T.ve boot_ValueError rfl) pa_nil))))))))) (pss_one (ps_ret pe_bl)) pss_nil)))
      (pss_one (ps_ret (pe_and (pe_not (pe_callB call_isV (by rfl) T.e.isi (by decide +kernel) (pa_cons (pe_exc0 T.exG T.gG T.kG rfl) (pa_cons (pe_bltn (v := .ty "KeyError") (by rfl) T.ke boot_KeyError rfl) pa_nil)))) (pe_one (pe_cmpR (op_eqD hu) (pe_call GO hr1 rfl T.gO T.kO bO .nil pass0 (pa_cons (pe_exc0 T.exG T.gG T.kG rfl) pa_nil)) (pe_lst pa_nil) (nomark _))))))))))))))))))), ?_⟩
    refine ⟨_, rfl, a0, ns, rfl, hS, hlen, fun p Hp1 np sp hp1 => ?_⟩
    refine ⟨_, rfl, p, 98, rfl, hp1.mono (by decide), fun va da Hp2 ga hp2 bt2 => ?_⟩
    refine ⟨_, rfl, p, 96, rfl, hp2, fun vb db Hp3 gb hp3 bt3 => ?_⟩
    refine ⟨_, rfl, p, 94, rfl, hp3, fun vc dc B gc hp4 bt4 => ?_⟩
    have ga2 := (ga.but hp2 bt3).but hp3 bt4
    have gb2 := gb.but hp3 bt4
    have i_va : ItemOk va := ga.is
    have i_vb : ItemOk vb := gb.is
    have i_vc : ItemOk vc := gc.is
    refine ⟨_, _, _, rfl, ?_⟩
    refine ⟨_, rfl, _, rfl, va, vb, da, db, rfl, ga2, gb2, fun B1 sB1 => ⟨_, rfl, ite2 (fun z => Bool.noConfusion (show false = true from z)) (fun _ => ?_)⟩⟩
    refine ⟨_, rfl, va, rfl, i_va, fun B2 sB2 => ⟨_, rfl, ite2 (fun z => Bool.noConfusion (show false = true from z)) (fun _ => ?_)⟩⟩
    clear sB1 sB2 ga2 gb2 bt2 bt3 bt4 hp1 hp2 hp3 hp4 ga gb gc
    generalize B2 = B at *
    have c0 : Same B B := Same.refl B
    refine ⟨_, rfl, _, rfl, rfl, fun e0 d0 H0 ne0 nd0 nn0 h0 k0 s0 => ?_⟩
    have c1 : Same B H0 := c0.trans s0
    have f0_line : FldAt K H0 e0 "line" va := fld_of E.e10.t h0 k0 (by simp) (by show ([("word", vb), ("line", va)] : List (Str × V)).lookup ("line" : Str) = some va; rw [lookup_put, if_neg (by decide +kernel), lookup_put, if_pos rfl])
    have f0_word : FldAt K H0 e0 "word" vb := fld_of E.e10.t h0 k0 (by simp) (by show ([("word", vb), ("line", va)] : List (Str × V)).lookup ("word" : Str) = some vb; rw [lookup_put, if_pos rfl])
    have x0 : ExAt H0 e0 (C 10) := exAt_of h0 k0
    refine ⟨_, rfl, _, rfl, rfl, fun e1 d1 H1 ne1 nd1 nn1 h1 k1 s1 => ?_⟩
    have c2 : Same B H1 := c1.trans s1
    replace f0_line : FldAt K H1 e0 "line" va := f0_line.same s1
    replace f0_word : FldAt K H1 e0 "word" vb := f0_word.same s1
    replace x0 : ExAt H1 e0 (C 10) := x0.same s1
    have f1_line : FldAt K H1 e1 "line" va := fld_of E.e10.t h1 k1 (by simp) (by show ([("word", vb), ("line", va)] : List (Str × V)).lookup ("line" : Str) = some va; rw [lookup_put, if_neg (by decide +kernel), lookup_put, if_pos rfl])
    have f1_word : FldAt K H1 e1 "word" vb := fld_of E.e10.t h1 k1 (by simp) (by show ([("word", vb), ("line", va)] : List (Str × V)).lookup ("word" : Str) = some vb; rw [lookup_put, if_pos rfl])
    have x1 : ExAt H1 e1 (C 10) := exAt_of h1 k1
    refine ⟨_, _, rfl, ?_⟩
    obtain ⟨D0, dd0, L0, X0, no0, hh0, hk0, hl0⟩ := f0_line
    have f0_line : FldAt K H1 e0 "line" va := ⟨D0, dd0, L0, X0, no0, hh0, hk0, hl0⟩
    obtain ⟨D1, dd1, L1, X1, no1, hh1, hk1, hl1⟩ := f0_word
    have f0_word : FldAt K H1 e0 "word" vb := ⟨D1, dd1, L1, X1, no1, hh1, hk1, hl1⟩
    obtain ⟨D2, dd2, L2, X2, no2, hh2, hk2, hl2⟩ := f1_line
    have f1_line : FldAt K H1 e1 "line" va := ⟨D2, dd2, L2, X2, no2, hh2, hk2, hl2⟩
    obtain ⟨D3, dd3, L3, X3, no3, hh3, hk3, hl3⟩ := f1_word
    have f1_word : FldAt K H1 e1 "word" vb := ⟨D3, dd3, L3, X3, no3, hh3, hk3, hl3⟩
    refine ⟨_, rfl, e0, D0, dd0, L0, _, rfl, X0, no0, hh0, hk0, hl0, _, rfl, e0, D1, dd1, L1, _, rfl, X1, no1, hh1, hk1, hl1, _, rfl, e1, D2, dd2, L2, _, rfl, X2, no2, hh2, hk2, hl2, _, rfl, e1, D3, dd3, L3, _, rfl, X3, no3, hh3, hk3, hl3, by show 4 ≤ sizeLine; decide, fun t0 nt0 => ?_⟩
    have gt0 : (upd H1 t0 (.tup [va, vb, va, vb])) t0 = some (.tup [va, vb, va, vb]) := upd_same
    have c3 : Same B (upd H1 t0 (.tup [va, vb, va, vb])) := c2.trans (Same.new nt0)
    replace f0_line : FldAt K (upd H1 t0 (.tup [va, vb, va, vb])) e0 "line" va := f0_line.same (Same.new nt0)
    replace f0_word : FldAt K (upd H1 t0 (.tup [va, vb, va, vb])) e0 "word" vb := f0_word.same (Same.new nt0)
    replace x0 : ExAt (upd H1 t0 (.tup [va, vb, va, vb])) e0 (C 10) := x0.same (Same.new nt0)
    replace f1_line : FldAt K (upd H1 t0 (.tup [va, vb, va, vb])) e1 "line" va := f1_line.same (Same.new nt0)
    replace f1_word : FldAt K (upd H1 t0 (.tup [va, vb, va, vb])) e1 "word" vb := f1_word.same (Same.new nt0)
    replace x1 : ExAt (upd H1 t0 (.tup [va, vb, va, vb])) e1 (C 10) := x1.same (Same.new nt0)
    refine ⟨_, rfl, _, rfl, _, rfl, _, rfl, by show 4 ≤ sizeLine; decide, fun u0 nu0 => ?_⟩
    have gu0 : (upd (upd H1 t0 (.tup [va, vb, va, vb])) u0 (.tup [va, vb, va, vb])) t0 = some (.tup [va, vb, va, vb]) := (Same.new nu0) _ _ gt0
    have c4 : Same B (upd (upd H1 t0 (.tup [va, vb, va, vb])) u0 (.tup [va, vb, va, vb])) := c3.trans (Same.new nu0)
    replace f0_line : FldAt K (upd (upd H1 t0 (.tup [va, vb, va, vb])) u0 (.tup [va, vb, va, vb])) e0 "line" va := f0_line.same (Same.new nu0)
    replace f0_word : FldAt K (upd (upd H1 t0 (.tup [va, vb, va, vb])) u0 (.tup [va, vb, va, vb])) e0 "word" vb := f0_word.same (Same.new nu0)
    replace x0 : ExAt (upd (upd H1 t0 (.tup [va, vb, va, vb])) u0 (.tup [va, vb, va, vb])) e0 (C 10) := x0.same (Same.new nu0)
    replace f1_line : FldAt K (upd (upd H1 t0 (.tup [va, vb, va, vb])) u0 (.tup [va, vb, va, vb])) e1 "line" va := f1_line.same (Same.new nu0)
    replace f1_word : FldAt K (upd (upd H1 t0 (.tup [va, vb, va, vb])) u0 (.tup [va, vb, va, vb])) e1 "word" vb := f1_word.same (Same.new nu0)
    replace x1 : ExAt (upd (upd H1 t0 (.tup [va, vb, va, vb])) u0 (.tup [va, vb, va, vb])) e1 (C 10) := x1.same (Same.new nu0)
    refine ⟨t0, u0, _, rfl, rfl, SqT.of gu0, SqT.of upd_same, ?_, _, rfl, ite2 (fun z => Bool.noConfusion z) (fun _ => ?_)⟩
    · intro z hz
      simp only [List.mem_cons, List.not_mem_nil, or_false] at hz
      rcases hz with rfl | rfl | rfl | rfl
      · exact i_va
      · exact i_vb
      · exact i_va
      · exact i_vb
    generalize (upd (upd H1 t0 (.tup [va, vb, va, vb])) u0 (.tup [va, vb, va, vb])) = G0 at *
    refine ⟨_, rfl, _, rfl, _, rfl, rfl, fun e2 d2 H2 ne2 nd2 nn2 h2 k2 s2 => ?_⟩
    have c5 : Same B H2 := c4.trans s2
    replace f0_line : FldAt K H2 e0 "line" va := f0_line.same s2
    replace f0_word : FldAt K H2 e0 "word" vb := f0_word.same s2
    replace x0 : ExAt H2 e0 (C 10) := x0.same s2
    replace f1_line : FldAt K H2 e1 "line" va := f1_line.same s2
    replace f1_word : FldAt K H2 e1 "word" vb := f1_word.same s2
    replace x1 : ExAt H2 e1 (C 10) := x1.same s2
    have f2_what : FldAt K H2 e2 "what" va := fld_of E.e12.t h2 k2 (by simp) (by show ([("limit", vc), ("many", vb), ("what", va)] : List (Str × V)).lookup ("what" : Str) = some va; rw [lookup_put, if_neg (by decide +kernel), lookup_put, if_neg (by decide +kernel), lookup_put, if_pos rfl])
    have f2_many : FldAt K H2 e2 "many" vb := fld_of E.e12.t h2 k2 (by simp) (by show ([("limit", vc), ("many", vb), ("what", va)] : List (Str × V)).lookup ("many" : Str) = some vb; rw [lookup_put, if_neg (by decide +kernel), lookup_put, if_pos rfl])
    have f2_limit : FldAt K H2 e2 "limit" vc := fld_of E.e12.t h2 k2 (by simp) (by show ([("limit", vc), ("many", vb), ("what", va)] : List (Str × V)).lookup ("limit" : Str) = some vc; rw [lookup_put, if_pos rfl])
    have x2 : ExAt H2 e2 (C 12) := exAt_of h2 k2
    refine ⟨_, rfl, _, rfl, _, rfl, rfl, fun e3 d3 H3 ne3 nd3 nn3 h3 k3 s3 => ?_⟩
    have c6 : Same B H3 := c5.trans s3
    replace f0_line : FldAt K H3 e0 "line" va := f0_line.same s3
    replace f0_word : FldAt K H3 e0 "word" vb := f0_word.same s3
    replace x0 : ExAt H3 e0 (C 10) := x0.same s3
    replace f1_line : FldAt K H3 e1 "line" va := f1_line.same s3
    replace f1_word : FldAt K H3 e1 "word" vb := f1_word.same s3
    replace x1 : ExAt H3 e1 (C 10) := x1.same s3
    replace f2_what : FldAt K H3 e2 "what" va := f2_what.same s3
    replace f2_many : FldAt K H3 e2 "many" vb := f2_many.same s3
    replace f2_limit : FldAt K H3 e2 "limit" vc := f2_limit.same s3
    replace x2 : ExAt H3 e2 (C 12) := x2.same s3
    have f3_what : FldAt K H3 e3 "what" va := fld_of E.e12.t h3 k3 (by simp) (by show ([("limit", vc), ("many", vb), ("what", va)] : List (Str × V)).lookup ("what" : Str) = some va; rw [lookup_put, if_neg (by decide +kernel), lookup_put, if_neg (by decide +kernel), lookup_put, if_pos rfl])
    have f3_many : FldAt K H3 e3 "many" vb := fld_of E.e12.t h3 k3 (by simp) (by show ([("limit", vc), ("many", vb), ("what", va)] : List (Str × V)).lookup ("many" : Str) = some vb; rw [lookup_put, if_neg (by decide +kernel), lookup_put, if_pos rfl])
    have f3_limit : FldAt K H3 e3 "limit" vc := fld_of E.e12.t h3 k3 (by simp) (by show ([("limit", vc), ("many", vb), ("what", va)] : List (Str × V)).lookup ("limit" : Str) = some vc; rw [lookup_put, if_pos rfl])
    have x3 : ExAt H3 e3 (C 12) := exAt_of h3 k3
    refine ⟨_, _, rfl, ?_⟩
    obtain ⟨D0, dd0, L0, X0, no0, hh0, hk0, hl0⟩ := f2_what
    have f2_what : FldAt K H3 e2 "what" va := ⟨D0, dd0, L0, X0, no0, hh0, hk0, hl0⟩
    obtain ⟨D1, dd1, L1, X1, no1, hh1, hk1, hl1⟩ := f2_many
    have f2_many : FldAt K H3 e2 "many" vb := ⟨D1, dd1, L1, X1, no1, hh1, hk1, hl1⟩
    obtain ⟨D2, dd2, L2, X2, no2, hh2, hk2, hl2⟩ := f2_limit
    have f2_limit : FldAt K H3 e2 "limit" vc := ⟨D2, dd2, L2, X2, no2, hh2, hk2, hl2⟩
    refine ⟨_, rfl, e2, D0, dd0, L0, _, rfl, X0, no0, hh0, hk0, hl0, _, rfl, e2, D1, dd1, L1, _, rfl, X1, no1, hh1, hk1, hl1, _, rfl, e2, D2, dd2, L2, _, rfl, X2, no2, hh2, hk2, hl2, by show 3 ≤ sizeLine; decide, fun t1 nt1 => ?_⟩
    have gt1 : (upd H3 t1 (.tup [va, vb, vc])) t1 = some (.tup [va, vb, vc]) := upd_same
    have c7 : Same B (upd H3 t1 (.tup [va, vb, vc])) := c6.trans (Same.new nt1)
    replace f0_line : FldAt K (upd H3 t1 (.tup [va, vb, vc])) e0 "line" va := f0_line.same (Same.new nt1)
    replace f0_word : FldAt K (upd H3 t1 (.tup [va, vb, vc])) e0 "word" vb := f0_word.same (Same.new nt1)
    replace x0 : ExAt (upd H3 t1 (.tup [va, vb, vc])) e0 (C 10) := x0.same (Same.new nt1)
    replace f1_line : FldAt K (upd H3 t1 (.tup [va, vb, vc])) e1 "line" va := f1_line.same (Same.new nt1)
    replace f1_word : FldAt K (upd H3 t1 (.tup [va, vb, vc])) e1 "word" vb := f1_word.same (Same.new nt1)
    replace x1 : ExAt (upd H3 t1 (.tup [va, vb, vc])) e1 (C 10) := x1.same (Same.new nt1)
    replace f2_what : FldAt K (upd H3 t1 (.tup [va, vb, vc])) e2 "what" va := f2_what.same (Same.new nt1)
    replace f2_many : FldAt K (upd H3 t1 (.tup [va, vb, vc])) e2 "many" vb := f2_many.same (Same.new nt1)
    replace f2_limit : FldAt K (upd H3 t1 (.tup [va, vb, vc])) e2 "limit" vc := f2_limit.same (Same.new nt1)
    replace x2 : ExAt (upd H3 t1 (.tup [va, vb, vc])) e2 (C 12) := x2.same (Same.new nt1)
    replace f3_what : FldAt K (upd H3 t1 (.tup [va, vb, vc])) e3 "what" va := f3_what.same (Same.new nt1)
    replace f3_many : FldAt K (upd H3 t1 (.tup [va, vb, vc])) e3 "many" vb := f3_many.same (Same.new nt1)
    replace f3_limit : FldAt K (upd H3 t1 (.tup [va, vb, vc])) e3 "limit" vc := f3_limit.same (Same.new nt1)
    replace x3 : ExAt (upd H3 t1 (.tup [va, vb, vc])) e3 (C 12) := x3.same (Same.new nt1)
    refine ⟨_, rfl, _, rfl, _, rfl, by show 3 ≤ sizeLine; decide, fun u1 nu1 => ?_⟩
    have gu1 : (upd (upd H3 t1 (.tup [va, vb, vc])) u1 (.tup [va, vb, vc])) t1 = some (.tup [va, vb, vc]) := (Same.new nu1) _ _ gt1
    have c8 : Same B (upd (upd H3 t1 (.tup [va, vb, vc])) u1 (.tup [va, vb, vc])) := c7.trans (Same.new nu1)
    replace f0_line : FldAt K (upd (upd H3 t1 (.tup [va, vb, vc])) u1 (.tup [va, vb, vc])) e0 "line" va := f0_line.same (Same.new nu1)
    replace f0_word : FldAt K (upd (upd H3 t1 (.tup [va, vb, vc])) u1 (.tup [va, vb, vc])) e0 "word" vb := f0_word.same (Same.new nu1)
    replace x0 : ExAt (upd (upd H3 t1 (.tup [va, vb, vc])) u1 (.tup [va, vb, vc])) e0 (C 10) := x0.same (Same.new nu1)
    replace f1_line : FldAt K (upd (upd H3 t1 (.tup [va, vb, vc])) u1 (.tup [va, vb, vc])) e1 "line" va := f1_line.same (Same.new nu1)
    replace f1_word : FldAt K (upd (upd H3 t1 (.tup [va, vb, vc])) u1 (.tup [va, vb, vc])) e1 "word" vb := f1_word.same (Same.new nu1)
    replace x1 : ExAt (upd (upd H3 t1 (.tup [va, vb, vc])) u1 (.tup [va, vb, vc])) e1 (C 10) := x1.same (Same.new nu1)
    replace f2_what : FldAt K (upd (upd H3 t1 (.tup [va, vb, vc])) u1 (.tup [va, vb, vc])) e2 "what" va := f2_what.same (Same.new nu1)
    replace f2_many : FldAt K (upd (upd H3 t1 (.tup [va, vb, vc])) u1 (.tup [va, vb, vc])) e2 "many" vb := f2_many.same (Same.new nu1)
    replace f2_limit : FldAt K (upd (upd H3 t1 (.tup [va, vb, vc])) u1 (.tup [va, vb, vc])) e2 "limit" vc := f2_limit.same (Same.new nu1)
    replace x2 : ExAt (upd (upd H3 t1 (.tup [va, vb, vc])) u1 (.tup [va, vb, vc])) e2 (C 12) := x2.same (Same.new nu1)
    replace f3_what : FldAt K (upd (upd H3 t1 (.tup [va, vb, vc])) u1 (.tup [va, vb, vc])) e3 "what" va := f3_what.same (Same.new nu1)
    replace f3_many : FldAt K (upd (upd H3 t1 (.tup [va, vb, vc])) u1 (.tup [va, vb, vc])) e3 "many" vb := f3_many.same (Same.new nu1)
    replace f3_limit : FldAt K (upd (upd H3 t1 (.tup [va, vb, vc])) u1 (.tup [va, vb, vc])) e3 "limit" vc := f3_limit.same (Same.new nu1)
    replace x3 : ExAt (upd (upd H3 t1 (.tup [va, vb, vc])) u1 (.tup [va, vb, vc])) e3 (C 12) := x3.same (Same.new nu1)
    refine ⟨t1, u1, _, rfl, rfl, SqT.of gu1, SqT.of upd_same, ?_, _, rfl, ite2 (fun z => Bool.noConfusion z) (fun _ => ?_)⟩
    · intro z hz
      simp only [List.mem_cons, List.not_mem_nil, or_false] at hz
      rcases hz with rfl | rfl | rfl
      · exact i_va
      · exact i_vb
      · exact i_vc
    generalize (upd (upd H3 t1 (.tup [va, vb, vc])) u1 (.tup [va, vb, vc])) = G1 at *
    obtain ⟨D0, dd0, L0, X0, no0, hh0, hk0, hl0⟩ := f3_what
    have f3_what : FldAt K G1 e3 "what" va := ⟨D0, dd0, L0, X0, no0, hh0, hk0, hl0⟩
    obtain ⟨D1, dd1, L1, X1, no1, hh1, hk1, hl1⟩ := f3_many
    have f3_many : FldAt K G1 e3 "many" vb := ⟨D1, dd1, L1, X1, no1, hh1, hk1, hl1⟩
    obtain ⟨D2, dd2, L2, X2, no2, hh2, hk2, hl2⟩ := f3_limit
    have f3_limit : FldAt K G1 e3 "limit" vc := ⟨D2, dd2, L2, X2, no2, hh2, hk2, hl2⟩
    refine ⟨_, rfl, e3, D0, dd0, L0, _, rfl, X0, no0, hh0, hk0, hl0, _, rfl, e3, D1, dd1, L1, _, rfl, X1, no1, hh1, hk1, hl1, _, rfl, e3, D2, dd2, L2, _, rfl, X2, no2, hh2, hk2, hl2, by show 3 ≤ sizeLine; decide, fun t2 nt2 => ?_⟩
    have gt2 : (upd G1 t2 (.tup [va, vb, vc])) t2 = some (.tup [va, vb, vc]) := upd_same
    have c9 : Same B (upd G1 t2 (.tup [va, vb, vc])) := c8.trans (Same.new nt2)
    replace f0_line : FldAt K (upd G1 t2 (.tup [va, vb, vc])) e0 "line" va := f0_line.same (Same.new nt2)
    replace f0_word : FldAt K (upd G1 t2 (.tup [va, vb, vc])) e0 "word" vb := f0_word.same (Same.new nt2)
    replace x0 : ExAt (upd G1 t2 (.tup [va, vb, vc])) e0 (C 10) := x0.same (Same.new nt2)
    replace f1_line : FldAt K (upd G1 t2 (.tup [va, vb, vc])) e1 "line" va := f1_line.same (Same.new nt2)
    replace f1_word : FldAt K (upd G1 t2 (.tup [va, vb, vc])) e1 "word" vb := f1_word.same (Same.new nt2)
    replace x1 : ExAt (upd G1 t2 (.tup [va, vb, vc])) e1 (C 10) := x1.same (Same.new nt2)
    replace f2_what : FldAt K (upd G1 t2 (.tup [va, vb, vc])) e2 "what" va := f2_what.same (Same.new nt2)
    replace f2_many : FldAt K (upd G1 t2 (.tup [va, vb, vc])) e2 "many" vb := f2_many.same (Same.new nt2)
    replace f2_limit : FldAt K (upd G1 t2 (.tup [va, vb, vc])) e2 "limit" vc := f2_limit.same (Same.new nt2)
    replace x2 : ExAt (upd G1 t2 (.tup [va, vb, vc])) e2 (C 12) := x2.same (Same.new nt2)
    replace f3_what : FldAt K (upd G1 t2 (.tup [va, vb, vc])) e3 "what" va := f3_what.same (Same.new nt2)
    replace f3_many : FldAt K (upd G1 t2 (.tup [va, vb, vc])) e3 "many" vb := f3_many.same (Same.new nt2)
    replace f3_limit : FldAt K (upd G1 t2 (.tup [va, vb, vc])) e3 "limit" vc := f3_limit.same (Same.new nt2)
    replace x3 : ExAt (upd G1 t2 (.tup [va, vb, vc])) e3 (C 12) := x3.same (Same.new nt2)
    refine ⟨_, rfl, _, rfl, _, rfl, by show 3 ≤ sizeLine; decide, fun u2 nu2 => ?_⟩
    have gu2 : (upd (upd G1 t2 (.tup [va, vb, vc])) u2 (.tup [va, vb, vc])) t2 = some (.tup [va, vb, vc]) := (Same.new nu2) _ _ gt2
    have c10 : Same B (upd (upd G1 t2 (.tup [va, vb, vc])) u2 (.tup [va, vb, vc])) := c9.trans (Same.new nu2)
    replace f0_line : FldAt K (upd (upd G1 t2 (.tup [va, vb, vc])) u2 (.tup [va, vb, vc])) e0 "line" va := f0_line.same (Same.new nu2)
    replace f0_word : FldAt K (upd (upd G1 t2 (.tup [va, vb, vc])) u2 (.tup [va, vb, vc])) e0 "word" vb := f0_word.same (Same.new nu2)
    replace x0 : ExAt (upd (upd G1 t2 (.tup [va, vb, vc])) u2 (.tup [va, vb, vc])) e0 (C 10) := x0.same (Same.new nu2)
    replace f1_line : FldAt K (upd (upd G1 t2 (.tup [va, vb, vc])) u2 (.tup [va, vb, vc])) e1 "line" va := f1_line.same (Same.new nu2)
    replace f1_word : FldAt K (upd (upd G1 t2 (.tup [va, vb, vc])) u2 (.tup [va, vb, vc])) e1 "word" vb := f1_word.same (Same.new nu2)
    replace x1 : ExAt (upd (upd G1 t2 (.tup [va, vb, vc])) u2 (.tup [va, vb, vc])) e1 (C 10) := x1.same (Same.new nu2)
    replace f2_what : FldAt K (upd (upd G1 t2 (.tup [va, vb, vc])) u2 (.tup [va, vb, vc])) e2 "what" va := f2_what.same (Same.new nu2)
    replace f2_many : FldAt K (upd (upd G1 t2 (.tup [va, vb, vc])) u2 (.tup [va, vb, vc])) e2 "many" vb := f2_many.same (Same.new nu2)
    replace f2_limit : FldAt K (upd (upd G1 t2 (.tup [va, vb, vc])) u2 (.tup [va, vb, vc])) e2 "limit" vc := f2_limit.same (Same.new nu2)
    replace x2 : ExAt (upd (upd G1 t2 (.tup [va, vb, vc])) u2 (.tup [va, vb, vc])) e2 (C 12) := x2.same (Same.new nu2)
    replace f3_what : FldAt K (upd (upd G1 t2 (.tup [va, vb, vc])) u2 (.tup [va, vb, vc])) e3 "what" va := f3_what.same (Same.new nu2)
    replace f3_many : FldAt K (upd (upd G1 t2 (.tup [va, vb, vc])) u2 (.tup [va, vb, vc])) e3 "many" vb := f3_many.same (Same.new nu2)
    replace f3_limit : FldAt K (upd (upd G1 t2 (.tup [va, vb, vc])) u2 (.tup [va, vb, vc])) e3 "limit" vc := f3_limit.same (Same.new nu2)
    replace x3 : ExAt (upd (upd G1 t2 (.tup [va, vb, vc])) u2 (.tup [va, vb, vc])) e3 (C 12) := x3.same (Same.new nu2)
    refine ⟨t2, u2, _, rfl, rfl, SqT.of gu2, SqT.of upd_same, ?_, _, rfl, ite2 (fun z => Bool.noConfusion z) (fun _ => ?_)⟩
    · intro z hz
      simp only [List.mem_cons, List.not_mem_nil, or_false] at hz
      rcases hz with rfl | rfl | rfl
      · exact i_va
      · exact i_vb
      · exact i_vc
    generalize (upd (upd G1 t2 (.tup [va, vb, vc])) u2 (.tup [va, vb, vc])) = G2 at *
    refine ⟨_, rfl, _, rfl, _, rfl, rfl, fun e4 d4 H4 ne4 nd4 nn4 h4 k4 s4 => ?_⟩
    have c11 : Same B H4 := c10.trans s4
    replace f0_line : FldAt K H4 e0 "line" va := f0_line.same s4
    replace f0_word : FldAt K H4 e0 "word" vb := f0_word.same s4
    replace x0 : ExAt H4 e0 (C 10) := x0.same s4
    replace f1_line : FldAt K H4 e1 "line" va := f1_line.same s4
    replace f1_word : FldAt K H4 e1 "word" vb := f1_word.same s4
    replace x1 : ExAt H4 e1 (C 10) := x1.same s4
    replace f2_what : FldAt K H4 e2 "what" va := f2_what.same s4
    replace f2_many : FldAt K H4 e2 "many" vb := f2_many.same s4
    replace f2_limit : FldAt K H4 e2 "limit" vc := f2_limit.same s4
    replace x2 : ExAt H4 e2 (C 12) := x2.same s4
    replace f3_what : FldAt K H4 e3 "what" va := f3_what.same s4
    replace f3_many : FldAt K H4 e3 "many" vb := f3_many.same s4
    replace f3_limit : FldAt K H4 e3 "limit" vc := f3_limit.same s4
    replace x3 : ExAt H4 e3 (C 12) := x3.same s4
    have f4_what : FldAt K H4 e4 "what" va := fld_of E.e1.t h4 k4 (by simp) (by show ([("column", vc), ("line", vb), ("what", va)] : List (Str × V)).lookup ("what" : Str) = some va; rw [lookup_put, if_neg (by decide +kernel), lookup_put, if_neg (by decide +kernel), lookup_put, if_pos rfl])
    have f4_line : FldAt K H4 e4 "line" vb := fld_of E.e1.t h4 k4 (by simp) (by show ([("column", vc), ("line", vb), ("what", va)] : List (Str × V)).lookup ("line" : Str) = some vb; rw [lookup_put, if_neg (by decide +kernel), lookup_put, if_pos rfl])
    have f4_column : FldAt K H4 e4 "column" vc := fld_of E.e1.t h4 k4 (by simp) (by show ([("column", vc), ("line", vb), ("what", va)] : List (Str × V)).lookup ("column" : Str) = some vc; rw [lookup_put, if_pos rfl])
    have x4 : ExAt H4 e4 (C 1) := exAt_of h4 k4
    refine ⟨_, rfl, _, rfl, _, rfl, rfl, fun e5 d5 H5 ne5 nd5 nn5 h5 k5 s5 => ?_⟩
    have c12 : Same B H5 := c11.trans s5
    replace f0_line : FldAt K H5 e0 "line" va := f0_line.same s5
    replace f0_word : FldAt K H5 e0 "word" vb := f0_word.same s5
    replace x0 : ExAt H5 e0 (C 10) := x0.same s5
    replace f1_line : FldAt K H5 e1 "line" va := f1_line.same s5
    replace f1_word : FldAt K H5 e1 "word" vb := f1_word.same s5
    replace x1 : ExAt H5 e1 (C 10) := x1.same s5
    replace f2_what : FldAt K H5 e2 "what" va := f2_what.same s5
    replace f2_many : FldAt K H5 e2 "many" vb := f2_many.same s5
    replace f2_limit : FldAt K H5 e2 "limit" vc := f2_limit.same s5
    replace x2 : ExAt H5 e2 (C 12) := x2.same s5
    replace f3_what : FldAt K H5 e3 "what" va := f3_what.same s5
    replace f3_many : FldAt K H5 e3 "many" vb := f3_many.same s5
    replace f3_limit : FldAt K H5 e3 "limit" vc := f3_limit.same s5
    replace x3 : ExAt H5 e3 (C 12) := x3.same s5
    replace f4_what : FldAt K H5 e4 "what" va := f4_what.same s5
    replace f4_line : FldAt K H5 e4 "line" vb := f4_line.same s5
    replace f4_column : FldAt K H5 e4 "column" vc := f4_column.same s5
    replace x4 : ExAt H5 e4 (C 1) := x4.same s5
    have f5_what : FldAt K H5 e5 "what" va := fld_of E.e1.t h5 k5 (by simp) (by show ([("column", vc), ("line", vb), ("what", va)] : List (Str × V)).lookup ("what" : Str) = some va; rw [lookup_put, if_neg (by decide +kernel), lookup_put, if_neg (by decide +kernel), lookup_put, if_pos rfl])
    have f5_line : FldAt K H5 e5 "line" vb := fld_of E.e1.t h5 k5 (by simp) (by show ([("column", vc), ("line", vb), ("what", va)] : List (Str × V)).lookup ("line" : Str) = some vb; rw [lookup_put, if_neg (by decide +kernel), lookup_put, if_pos rfl])
    have f5_column : FldAt K H5 e5 "column" vc := fld_of E.e1.t h5 k5 (by simp) (by show ([("column", vc), ("line", vb), ("what", va)] : List (Str × V)).lookup ("column" : Str) = some vc; rw [lookup_put, if_pos rfl])
    have x5 : ExAt H5 e5 (C 1) := exAt_of h5 k5
    refine ⟨_, _, rfl, ?_⟩
    obtain ⟨D0, dd0, L0, X0, no0, hh0, hk0, hl0⟩ := f4_what
    have f4_what : FldAt K H5 e4 "what" va := ⟨D0, dd0, L0, X0, no0, hh0, hk0, hl0⟩
    obtain ⟨D1, dd1, L1, X1, no1, hh1, hk1, hl1⟩ := f4_line
    have f4_line : FldAt K H5 e4 "line" vb := ⟨D1, dd1, L1, X1, no1, hh1, hk1, hl1⟩
    obtain ⟨D2, dd2, L2, X2, no2, hh2, hk2, hl2⟩ := f4_column
    have f4_column : FldAt K H5 e4 "column" vc := ⟨D2, dd2, L2, X2, no2, hh2, hk2, hl2⟩
    refine ⟨_, rfl, e4, D0, dd0, L0, _, rfl, X0, no0, hh0, hk0, hl0, _, rfl, e4, D1, dd1, L1, _, rfl, X1, no1, hh1, hk1, hl1, _, rfl, e4, D2, dd2, L2, _, rfl, X2, no2, hh2, hk2, hl2, by show 3 ≤ sizeLine; decide, fun t3 nt3 => ?_⟩
    have gt3 : (upd H5 t3 (.tup [va, vb, vc])) t3 = some (.tup [va, vb, vc]) := upd_same
    have c13 : Same B (upd H5 t3 (.tup [va, vb, vc])) := c12.trans (Same.new nt3)
    replace f0_line : FldAt K (upd H5 t3 (.tup [va, vb, vc])) e0 "line" va := f0_line.same (Same.new nt3)
    replace f0_word : FldAt K (upd H5 t3 (.tup [va, vb, vc])) e0 "word" vb := f0_word.same (Same.new nt3)
    replace x0 : ExAt (upd H5 t3 (.tup [va, vb, vc])) e0 (C 10) := x0.same (Same.new nt3)
    replace f1_line : FldAt K (upd H5 t3 (.tup [va, vb, vc])) e1 "line" va := f1_line.same (Same.new nt3)
    replace f1_word : FldAt K (upd H5 t3 (.tup [va, vb, vc])) e1 "word" vb := f1_word.same (Same.new nt3)
    replace x1 : ExAt (upd H5 t3 (.tup [va, vb, vc])) e1 (C 10) := x1.same (Same.new nt3)
    replace f2_what : FldAt K (upd H5 t3 (.tup [va, vb, vc])) e2 "what" va := f2_what.same (Same.new nt3)
    replace f2_many : FldAt K (upd H5 t3 (.tup [va, vb, vc])) e2 "many" vb := f2_many.same (Same.new nt3)
    replace f2_limit : FldAt K (upd H5 t3 (.tup [va, vb, vc])) e2 "limit" vc := f2_limit.same (Same.new nt3)
    replace x2 : ExAt (upd H5 t3 (.tup [va, vb, vc])) e2 (C 12) := x2.same (Same.new nt3)
    replace f3_what : FldAt K (upd H5 t3 (.tup [va, vb, vc])) e3 "what" va := f3_what.same (Same.new nt3)
    replace f3_many : FldAt K (upd H5 t3 (.tup [va, vb, vc])) e3 "many" vb := f3_many.same (Same.new nt3)
    replace f3_limit : FldAt K (upd H5 t3 (.tup [va, vb, vc])) e3 "limit" vc := f3_limit.same (Same.new nt3)
    replace x3 : ExAt (upd H5 t3 (.tup [va, vb, vc])) e3 (C 12) := x3.same (Same.new nt3)
    replace f4_what : FldAt K (upd H5 t3 (.tup [va, vb, vc])) e4 "what" va := f4_what.same (Same.new nt3)
    replace f4_line : FldAt K (upd H5 t3 (.tup [va, vb, vc])) e4 "line" vb := f4_line.same (Same.new nt3)
    replace f4_column : FldAt K (upd H5 t3 (.tup [va, vb, vc])) e4 "column" vc := f4_column.same (Same.new nt3)
    replace x4 : ExAt (upd H5 t3 (.tup [va, vb, vc])) e4 (C 1) := x4.same (Same.new nt3)
    replace f5_what : FldAt K (upd H5 t3 (.tup [va, vb, vc])) e5 "what" va := f5_what.same (Same.new nt3)
    replace f5_line : FldAt K (upd H5 t3 (.tup [va, vb, vc])) e5 "line" vb := f5_line.same (Same.new nt3)
    replace f5_column : FldAt K (upd H5 t3 (.tup [va, vb, vc])) e5 "column" vc := f5_column.same (Same.new nt3)
    replace x5 : ExAt (upd H5 t3 (.tup [va, vb, vc])) e5 (C 1) := x5.same (Same.new nt3)
    refine ⟨_, rfl, _, rfl, _, rfl, by show 3 ≤ sizeLine; decide, fun u3 nu3 => ?_⟩
    have gu3 : (upd (upd H5 t3 (.tup [va, vb, vc])) u3 (.tup [va, vb, vc])) t3 = some (.tup [va, vb, vc]) := (Same.new nu3) _ _ gt3
    have c14 : Same B (upd (upd H5 t3 (.tup [va, vb, vc])) u3 (.tup [va, vb, vc])) := c13.trans (Same.new nu3)
    replace f0_line : FldAt K (upd (upd H5 t3 (.tup [va, vb, vc])) u3 (.tup [va, vb, vc])) e0 "line" va := f0_line.same (Same.new nu3)
    replace f0_word : FldAt K (upd (upd H5 t3 (.tup [va, vb, vc])) u3 (.tup [va, vb, vc])) e0 "word" vb := f0_word.same (Same.new nu3)
    replace x0 : ExAt (upd (upd H5 t3 (.tup [va, vb, vc])) u3 (.tup [va, vb, vc])) e0 (C 10) := x0.same (Same.new nu3)
    replace f1_line : FldAt K (upd (upd H5 t3 (.tup [va, vb, vc])) u3 (.tup [va, vb, vc])) e1 "line" va := f1_line.same (Same.new nu3)
    replace f1_word : FldAt K (upd (upd H5 t3 (.tup [va, vb, vc])) u3 (.tup [va, vb, vc])) e1 "word" vb := f1_word.same (Same.new nu3)
    replace x1 : ExAt (upd (upd H5 t3 (.tup [va, vb, vc])) u3 (.tup [va, vb, vc])) e1 (C 10) := x1.same (Same.new nu3)
    replace f2_what : FldAt K (upd (upd H5 t3 (.tup [va, vb, vc])) u3 (.tup [va, vb, vc])) e2 "what" va := f2_what.same (Same.new nu3)
    replace f2_many : FldAt K (upd (upd H5 t3 (.tup [va, vb, vc])) u3 (.tup [va, vb, vc])) e2 "many" vb := f2_many.same (Same.new nu3)
    replace f2_limit : FldAt K (upd (upd H5 t3 (.tup [va, vb, vc])) u3 (.tup [va, vb, vc])) e2 "limit" vc := f2_limit.same (Same.new nu3)
    replace x2 : ExAt (upd (upd H5 t3 (.tup [va, vb, vc])) u3 (.tup [va, vb, vc])) e2 (C 12) := x2.same (Same.new nu3)
    replace f3_what : FldAt K (upd (upd H5 t3 (.tup [va, vb, vc])) u3 (.tup [va, vb, vc])) e3 "what" va := f3_what.same (Same.new nu3)
    replace f3_many : FldAt K (upd (upd H5 t3 (.tup [va, vb, vc])) u3 (.tup [va, vb, vc])) e3 "many" vb := f3_many.same (Same.new nu3)
    replace f3_limit : FldAt K (upd (upd H5 t3 (.tup [va, vb, vc])) u3 (.tup [va, vb, vc])) e3 "limit" vc := f3_limit.same (Same.new nu3)
    replace x3 : ExAt (upd (upd H5 t3 (.tup [va, vb, vc])) u3 (.tup [va, vb, vc])) e3 (C 12) := x3.same (Same.new nu3)
    replace f4_what : FldAt K (upd (upd H5 t3 (.tup [va, vb, vc])) u3 (.tup [va, vb, vc])) e4 "what" va := f4_what.same (Same.new nu3)
    replace f4_line : FldAt K (upd (upd H5 t3 (.tup [va, vb, vc])) u3 (.tup [va, vb, vc])) e4 "line" vb := f4_line.same (Same.new nu3)
    replace f4_column : FldAt K (upd (upd H5 t3 (.tup [va, vb, vc])) u3 (.tup [va, vb, vc])) e4 "column" vc := f4_column.same (Same.new nu3)
    replace x4 : ExAt (upd (upd H5 t3 (.tup [va, vb, vc])) u3 (.tup [va, vb, vc])) e4 (C 1) := x4.same (Same.new nu3)
    replace f5_what : FldAt K (upd (upd H5 t3 (.tup [va, vb, vc])) u3 (.tup [va, vb, vc])) e5 "what" va := f5_what.same (Same.new nu3)
    replace f5_line : FldAt K (upd (upd H5 t3 (.tup [va, vb, vc])) u3 (.tup [va, vb, vc])) e5 "line" vb := f5_line.same (Same.new nu3)
    replace f5_column : FldAt K (upd (upd H5 t3 (.tup [va, vb, vc])) u3 (.tup [va, vb, vc])) e5 "column" vc := f5_column.same (Same.new nu3)
    replace x5 : ExAt (upd (upd H5 t3 (.tup [va, vb, vc])) u3 (.tup [va, vb, vc])) e5 (C 1) := x5.same (Same.new nu3)
    refine ⟨t3, u3, _, rfl, rfl, SqT.of gu3, SqT.of upd_same, ?_, _, rfl, ite2 (fun z => Bool.noConfusion z) (fun _ => ?_)⟩
    · intro z hz
      simp only [List.mem_cons, List.not_mem_nil, or_false] at hz
      rcases hz with rfl | rfl | rfl
      · exact i_va
      · exact i_vb
      · exact i_vc
    generalize (upd (upd H5 t3 (.tup [va, vb, vc])) u3 (.tup [va, vb, vc])) = G3 at *
    obtain ⟨D0, dd0, L0, X0, no0, hh0, hk0, hl0⟩ := f5_what
    have f5_what : FldAt K G3 e5 "what" va := ⟨D0, dd0, L0, X0, no0, hh0, hk0, hl0⟩
    obtain ⟨D1, dd1, L1, X1, no1, hh1, hk1, hl1⟩ := f5_line
    have f5_line : FldAt K G3 e5 "line" vb := ⟨D1, dd1, L1, X1, no1, hh1, hk1, hl1⟩
    obtain ⟨D2, dd2, L2, X2, no2, hh2, hk2, hl2⟩ := f5_column
    have f5_column : FldAt K G3 e5 "column" vc := ⟨D2, dd2, L2, X2, no2, hh2, hk2, hl2⟩
    refine ⟨_, rfl, e5, D0, dd0, L0, _, rfl, X0, no0, hh0, hk0, hl0, _, rfl, e5, D1, dd1, L1, _, rfl, X1, no1, hh1, hk1, hl1, _, rfl, e5, D2, dd2, L2, _, rfl, X2, no2, hh2, hk2, hl2, by show 3 ≤ sizeLine; decide, fun t4 nt4 => ?_⟩
    have gt4 : (upd G3 t4 (.tup [va, vb, vc])) t4 = some (.tup [va, vb, vc]) := upd_same
    have c15 : Same B (upd G3 t4 (.tup [va, vb, vc])) := c14.trans (Same.new nt4)
    replace f0_line : FldAt K (upd G3 t4 (.tup [va, vb, vc])) e0 "line" va := f0_line.same (Same.new nt4)
    replace f0_word : FldAt K (upd G3 t4 (.tup [va, vb, vc])) e0 "word" vb := f0_word.same (Same.new nt4)
    replace x0 : ExAt (upd G3 t4 (.tup [va, vb, vc])) e0 (C 10) := x0.same (Same.new nt4)
    replace f1_line : FldAt K (upd G3 t4 (.tup [va, vb, vc])) e1 "line" va := f1_line.same (Same.new nt4)
    replace f1_word : FldAt K (upd G3 t4 (.tup [va, vb, vc])) e1 "word" vb := f1_word.same (Same.new nt4)
    replace x1 : ExAt (upd G3 t4 (.tup [va, vb, vc])) e1 (C 10) := x1.same (Same.new nt4)
    replace f2_what : FldAt K (upd G3 t4 (.tup [va, vb, vc])) e2 "what" va := f2_what.same (Same.new nt4)
    replace f2_many : FldAt K (upd G3 t4 (.tup [va, vb, vc])) e2 "many" vb := f2_many.same (Same.new nt4)
    replace f2_limit : FldAt K (upd G3 t4 (.tup [va, vb, vc])) e2 "limit" vc := f2_limit.same (Same.new nt4)
    replace x2 : ExAt (upd G3 t4 (.tup [va, vb, vc])) e2 (C 12) := x2.same (Same.new nt4)
    replace f3_what : FldAt K (upd G3 t4 (.tup [va, vb, vc])) e3 "what" va := f3_what.same (Same.new nt4)
    replace f3_many : FldAt K (upd G3 t4 (.tup [va, vb, vc])) e3 "many" vb := f3_many.same (Same.new nt4)
    replace f3_limit : FldAt K (upd G3 t4 (.tup [va, vb, vc])) e3 "limit" vc := f3_limit.same (Same.new nt4)
    replace x3 : ExAt (upd G3 t4 (.tup [va, vb, vc])) e3 (C 12) := x3.same (Same.new nt4)
    replace f4_what : FldAt K (upd G3 t4 (.tup [va, vb, vc])) e4 "what" va := f4_what.same (Same.new nt4)
    replace f4_line : FldAt K (upd G3 t4 (.tup [va, vb, vc])) e4 "line" vb := f4_line.same (Same.new nt4)
    replace f4_column : FldAt K (upd G3 t4 (.tup [va, vb, vc])) e4 "column" vc := f4_column.same (Same.new nt4)
    replace x4 : ExAt (upd G3 t4 (.tup [va, vb, vc])) e4 (C 1) := x4.same (Same.new nt4)
    replace f5_what : FldAt K (upd G3 t4 (.tup [va, vb, vc])) e5 "what" va := f5_what.same (Same.new nt4)
    replace f5_line : FldAt K (upd G3 t4 (.tup [va, vb, vc])) e5 "line" vb := f5_line.same (Same.new nt4)
    replace f5_column : FldAt K (upd G3 t4 (.tup [va, vb, vc])) e5 "column" vc := f5_column.same (Same.new nt4)
    replace x5 : ExAt (upd G3 t4 (.tup [va, vb, vc])) e5 (C 1) := x5.same (Same.new nt4)
    refine ⟨_, rfl, _, rfl, _, rfl, by show 3 ≤ sizeLine; decide, fun u4 nu4 => ?_⟩
    have gu4 : (upd (upd G3 t4 (.tup [va, vb, vc])) u4 (.tup [va, vb, vc])) t4 = some (.tup [va, vb, vc]) := (Same.new nu4) _ _ gt4
    have c16 : Same B (upd (upd G3 t4 (.tup [va, vb, vc])) u4 (.tup [va, vb, vc])) := c15.trans (Same.new nu4)
    replace f0_line : FldAt K (upd (upd G3 t4 (.tup [va, vb, vc])) u4 (.tup [va, vb, vc])) e0 "line" va := f0_line.same (Same.new nu4)
    replace f0_word : FldAt K (upd (upd G3 t4 (.tup [va, vb, vc])) u4 (.tup [va, vb, vc])) e0 "word" vb := f0_word.same (Same.new nu4)
    replace x0 : ExAt (upd (upd G3 t4 (.tup [va, vb, vc])) u4 (.tup [va, vb, vc])) e0 (C 10) := x0.same (Same.new nu4)
    replace f1_line : FldAt K (upd (upd G3 t4 (.tup [va, vb, vc])) u4 (.tup [va, vb, vc])) e1 "line" va := f1_line.same (Same.new nu4)
    replace f1_word : FldAt K (upd (upd G3 t4 (.tup [va, vb, vc])) u4 (.tup [va, vb, vc])) e1 "word" vb := f1_word.same (Same.new nu4)
    replace x1 : ExAt (upd (upd G3 t4 (.tup [va, vb, vc])) u4 (.tup [va, vb, vc])) e1 (C 10) := x1.same (Same.new nu4)
    replace f2_what : FldAt K (upd (upd G3 t4 (.tup [va, vb, vc])) u4 (.tup [va, vb, vc])) e2 "what" va := f2_what.same (Same.new nu4)
    replace f2_many : FldAt K (upd (upd G3 t4 (.tup [va, vb, vc])) u4 (.tup [va, vb, vc])) e2 "many" vb := f2_many.same (Same.new nu4)
    replace f2_limit : FldAt K (upd (upd G3 t4 (.tup [va, vb, vc])) u4 (.tup [va, vb, vc])) e2 "limit" vc := f2_limit.same (Same.new nu4)
    replace x2 : ExAt (upd (upd G3 t4 (.tup [va, vb, vc])) u4 (.tup [va, vb, vc])) e2 (C 12) := x2.same (Same.new nu4)
    replace f3_what : FldAt K (upd (upd G3 t4 (.tup [va, vb, vc])) u4 (.tup [va, vb, vc])) e3 "what" va := f3_what.same (Same.new nu4)
    replace f3_many : FldAt K (upd (upd G3 t4 (.tup [va, vb, vc])) u4 (.tup [va, vb, vc])) e3 "many" vb := f3_many.same (Same.new nu4)
    replace f3_limit : FldAt K (upd (upd G3 t4 (.tup [va, vb, vc])) u4 (.tup [va, vb, vc])) e3 "limit" vc := f3_limit.same (Same.new nu4)
    replace x3 : ExAt (upd (upd G3 t4 (.tup [va, vb, vc])) u4 (.tup [va, vb, vc])) e3 (C 12) := x3.same (Same.new nu4)
    replace f4_what : FldAt K (upd (upd G3 t4 (.tup [va, vb, vc])) u4 (.tup [va, vb, vc])) e4 "what" va := f4_what.same (Same.new nu4)
    replace f4_line : FldAt K (upd (upd G3 t4 (.tup [va, vb, vc])) u4 (.tup [va, vb, vc])) e4 "line" vb := f4_line.same (Same.new nu4)
    replace f4_column : FldAt K (upd (upd G3 t4 (.tup [va, vb, vc])) u4 (.tup [va, vb, vc])) e4 "column" vc := f4_column.same (Same.new nu4)
    replace x4 : ExAt (upd (upd G3 t4 (.tup [va, vb, vc])) u4 (.tup [va, vb, vc])) e4 (C 1) := x4.same (Same.new nu4)
    replace f5_what : FldAt K (upd (upd G3 t4 (.tup [va, vb, vc])) u4 (.tup [va, vb, vc])) e5 "what" va := f5_what.same (Same.new nu4)
    replace f5_line : FldAt K (upd (upd G3 t4 (.tup [va, vb, vc])) u4 (.tup [va, vb, vc])) e5 "line" vb := f5_line.same (Same.new nu4)
    replace f5_column : FldAt K (upd (upd G3 t4 (.tup [va, vb, vc])) u4 (.tup [va, vb, vc])) e5 "column" vc := f5_column.same (Same.new nu4)
    replace x5 : ExAt (upd (upd G3 t4 (.tup [va, vb, vc])) u4 (.tup [va, vb, vc])) e5 (C 1) := x5.same (Same.new nu4)
    refine ⟨t4, u4, _, rfl, rfl, SqT.of gu4, SqT.of upd_same, ?_, _, rfl, ite2 (fun z => Bool.noConfusion z) (fun _ => ?_)⟩
    · intro z hz
      simp only [List.mem_cons, List.not_mem_nil, or_false] at hz
      rcases hz with rfl | rfl | rfl
      · exact i_va
      · exact i_vb
      · exact i_vc
    generalize (upd (upd G3 t4 (.tup [va, vb, vc])) u4 (.tup [va, vb, vc])) = G4 at *
    refine ⟨_, rfl, _, rfl, rfl, fun e6 d6 H6 ne6 nd6 nn6 h6 k6 s6 => ?_⟩
    have c17 : Same B H6 := c16.trans s6
    replace f0_line : FldAt K H6 e0 "line" va := f0_line.same s6
    replace f0_word : FldAt K H6 e0 "word" vb := f0_word.same s6
    replace x0 : ExAt H6 e0 (C 10) := x0.same s6
    replace f1_line : FldAt K H6 e1 "line" va := f1_line.same s6
    replace f1_word : FldAt K H6 e1 "word" vb := f1_word.same s6
    replace x1 : ExAt H6 e1 (C 10) := x1.same s6
    replace f2_what : FldAt K H6 e2 "what" va := f2_what.same s6
    replace f2_many : FldAt K H6 e2 "many" vb := f2_many.same s6
    replace f2_limit : FldAt K H6 e2 "limit" vc := f2_limit.same s6
    replace x2 : ExAt H6 e2 (C 12) := x2.same s6
    replace f3_what : FldAt K H6 e3 "what" va := f3_what.same s6
    replace f3_many : FldAt K H6 e3 "many" vb := f3_many.same s6
    replace f3_limit : FldAt K H6 e3 "limit" vc := f3_limit.same s6
    replace x3 : ExAt H6 e3 (C 12) := x3.same s6
    replace f4_what : FldAt K H6 e4 "what" va := f4_what.same s6
    replace f4_line : FldAt K H6 e4 "line" vb := f4_line.same s6
    replace f4_column : FldAt K H6 e4 "column" vc := f4_column.same s6
    replace x4 : ExAt H6 e4 (C 1) := x4.same s6
    replace f5_what : FldAt K H6 e5 "what" va := f5_what.same s6
    replace f5_line : FldAt K H6 e5 "line" vb := f5_line.same s6
    replace f5_column : FldAt K H6 e5 "column" vc := f5_column.same s6
    replace x5 : ExAt H6 e5 (C 1) := x5.same s6
    have f6_promise : FldAt K H6 e6 "promise" va := fld_of E.e13.t h6 k6 (by simp) (by show ([("witness", vb), ("promise", va)] : List (Str × V)).lookup ("promise" : Str) = some va; rw [lookup_put, if_neg (by decide +kernel), lookup_put, if_pos rfl])
    have f6_witness : FldAt K H6 e6 "witness" vb := fld_of E.e13.t h6 k6 (by simp) (by show ([("witness", vb), ("promise", va)] : List (Str × V)).lookup ("witness" : Str) = some vb; rw [lookup_put, if_pos rfl])
    have x6 : ExAt H6 e6 (C 13) := exAt_of h6 k6
    refine ⟨_, rfl, _, rfl, rfl, fun e7 d7 H7 ne7 nd7 nn7 h7 k7 s7 => ?_⟩
    have c18 : Same B H7 := c17.trans s7
    replace f0_line : FldAt K H7 e0 "line" va := f0_line.same s7
    replace f0_word : FldAt K H7 e0 "word" vb := f0_word.same s7
    replace x0 : ExAt H7 e0 (C 10) := x0.same s7
    replace f1_line : FldAt K H7 e1 "line" va := f1_line.same s7
    replace f1_word : FldAt K H7 e1 "word" vb := f1_word.same s7
    replace x1 : ExAt H7 e1 (C 10) := x1.same s7
    replace f2_what : FldAt K H7 e2 "what" va := f2_what.same s7
    replace f2_many : FldAt K H7 e2 "many" vb := f2_many.same s7
    replace f2_limit : FldAt K H7 e2 "limit" vc := f2_limit.same s7
    replace x2 : ExAt H7 e2 (C 12) := x2.same s7
    replace f3_what : FldAt K H7 e3 "what" va := f3_what.same s7
    replace f3_many : FldAt K H7 e3 "many" vb := f3_many.same s7
    replace f3_limit : FldAt K H7 e3 "limit" vc := f3_limit.same s7
    replace x3 : ExAt H7 e3 (C 12) := x3.same s7
    replace f4_what : FldAt K H7 e4 "what" va := f4_what.same s7
    replace f4_line : FldAt K H7 e4 "line" vb := f4_line.same s7
    replace f4_column : FldAt K H7 e4 "column" vc := f4_column.same s7
    replace x4 : ExAt H7 e4 (C 1) := x4.same s7
    replace f5_what : FldAt K H7 e5 "what" va := f5_what.same s7
    replace f5_line : FldAt K H7 e5 "line" vb := f5_line.same s7
    replace f5_column : FldAt K H7 e5 "column" vc := f5_column.same s7
    replace x5 : ExAt H7 e5 (C 1) := x5.same s7
    replace f6_promise : FldAt K H7 e6 "promise" va := f6_promise.same s7
    replace f6_witness : FldAt K H7 e6 "witness" vb := f6_witness.same s7
    replace x6 : ExAt H7 e6 (C 13) := x6.same s7
    have f7_promise : FldAt K H7 e7 "promise" va := fld_of E.e13.t h7 k7 (by simp) (by show ([("witness", vb), ("promise", va)] : List (Str × V)).lookup ("promise" : Str) = some va; rw [lookup_put, if_neg (by decide +kernel), lookup_put, if_pos rfl])
    have f7_witness : FldAt K H7 e7 "witness" vb := fld_of E.e13.t h7 k7 (by simp) (by show ([("witness", vb), ("promise", va)] : List (Str × V)).lookup ("witness" : Str) = some vb; rw [lookup_put, if_pos rfl])
    have x7 : ExAt H7 e7 (C 13) := exAt_of h7 k7
    refine ⟨_, _, rfl, ?_⟩
    obtain ⟨D0, dd0, L0, X0, no0, hh0, hk0, hl0⟩ := f6_promise
    have f6_promise : FldAt K H7 e6 "promise" va := ⟨D0, dd0, L0, X0, no0, hh0, hk0, hl0⟩
    obtain ⟨D1, dd1, L1, X1, no1, hh1, hk1, hl1⟩ := f6_witness
    have f6_witness : FldAt K H7 e6 "witness" vb := ⟨D1, dd1, L1, X1, no1, hh1, hk1, hl1⟩
    obtain ⟨D2, dd2, L2, X2, no2, hh2, hk2, hl2⟩ := f7_promise
    have f7_promise : FldAt K H7 e7 "promise" va := ⟨D2, dd2, L2, X2, no2, hh2, hk2, hl2⟩
    obtain ⟨D3, dd3, L3, X3, no3, hh3, hk3, hl3⟩ := f7_witness
    have f7_witness : FldAt K H7 e7 "witness" vb := ⟨D3, dd3, L3, X3, no3, hh3, hk3, hl3⟩
    refine ⟨_, rfl, e6, D0, dd0, L0, _, rfl, X0, no0, hh0, hk0, hl0, _, rfl, e6, D1, dd1, L1, _, rfl, X1, no1, hh1, hk1, hl1, _, rfl, e7, D2, dd2, L2, _, rfl, X2, no2, hh2, hk2, hl2, _, rfl, e7, D3, dd3, L3, _, rfl, X3, no3, hh3, hk3, hl3, by show 4 ≤ sizeLine; decide, fun t5 nt5 => ?_⟩
    have gt5 : (upd H7 t5 (.tup [va, vb, va, vb])) t5 = some (.tup [va, vb, va, vb]) := upd_same
    have c19 : Same B (upd H7 t5 (.tup [va, vb, va, vb])) := c18.trans (Same.new nt5)
    replace f0_line : FldAt K (upd H7 t5 (.tup [va, vb, va, vb])) e0 "line" va := f0_line.same (Same.new nt5)
    replace f0_word : FldAt K (upd H7 t5 (.tup [va, vb, va, vb])) e0 "word" vb := f0_word.same (Same.new nt5)
    replace x0 : ExAt (upd H7 t5 (.tup [va, vb, va, vb])) e0 (C 10) := x0.same (Same.new nt5)
    replace f1_line : FldAt K (upd H7 t5 (.tup [va, vb, va, vb])) e1 "line" va := f1_line.same (Same.new nt5)
    replace f1_word : FldAt K (upd H7 t5 (.tup [va, vb, va, vb])) e1 "word" vb := f1_word.same (Same.new nt5)
    replace x1 : ExAt (upd H7 t5 (.tup [va, vb, va, vb])) e1 (C 10) := x1.same (Same.new nt5)
    replace f2_what : FldAt K (upd H7 t5 (.tup [va, vb, va, vb])) e2 "what" va := f2_what.same (Same.new nt5)
    replace f2_many : FldAt K (upd H7 t5 (.tup [va, vb, va, vb])) e2 "many" vb := f2_many.same (Same.new nt5)
    replace f2_limit : FldAt K (upd H7 t5 (.tup [va, vb, va, vb])) e2 "limit" vc := f2_limit.same (Same.new nt5)
    replace x2 : ExAt (upd H7 t5 (.tup [va, vb, va, vb])) e2 (C 12) := x2.same (Same.new nt5)
    replace f3_what : FldAt K (upd H7 t5 (.tup [va, vb, va, vb])) e3 "what" va := f3_what.same (Same.new nt5)
    replace f3_many : FldAt K (upd H7 t5 (.tup [va, vb, va, vb])) e3 "many" vb := f3_many.same (Same.new nt5)
    replace f3_limit : FldAt K (upd H7 t5 (.tup [va, vb, va, vb])) e3 "limit" vc := f3_limit.same (Same.new nt5)
    replace x3 : ExAt (upd H7 t5 (.tup [va, vb, va, vb])) e3 (C 12) := x3.same (Same.new nt5)
    replace f4_what : FldAt K (upd H7 t5 (.tup [va, vb, va, vb])) e4 "what" va := f4_what.same (Same.new nt5)
    replace f4_line : FldAt K (upd H7 t5 (.tup [va, vb, va, vb])) e4 "line" vb := f4_line.same (Same.new nt5)
    replace f4_column : FldAt K (upd H7 t5 (.tup [va, vb, va, vb])) e4 "column" vc := f4_column.same (Same.new nt5)
    replace x4 : ExAt (upd H7 t5 (.tup [va, vb, va, vb])) e4 (C 1) := x4.same (Same.new nt5)
    replace f5_what : FldAt K (upd H7 t5 (.tup [va, vb, va, vb])) e5 "what" va := f5_what.same (Same.new nt5)
    replace f5_line : FldAt K (upd H7 t5 (.tup [va, vb, va, vb])) e5 "line" vb := f5_line.same (Same.new nt5)
    replace f5_column : FldAt K (upd H7 t5 (.tup [va, vb, va, vb])) e5 "column" vc := f5_column.same (Same.new nt5)
    replace x5 : ExAt (upd H7 t5 (.tup [va, vb, va, vb])) e5 (C 1) := x5.same (Same.new nt5)
    replace f6_promise : FldAt K (upd H7 t5 (.tup [va, vb, va, vb])) e6 "promise" va := f6_promise.same (Same.new nt5)
    replace f6_witness : FldAt K (upd H7 t5 (.tup [va, vb, va, vb])) e6 "witness" vb := f6_witness.same (Same.new nt5)
    replace x6 : ExAt (upd H7 t5 (.tup [va, vb, va, vb])) e6 (C 13) := x6.same (Same.new nt5)
    replace f7_promise : FldAt K (upd H7 t5 (.tup [va, vb, va, vb])) e7 "promise" va := f7_promise.same (Same.new nt5)
    replace f7_witness : FldAt K (upd H7 t5 (.tup [va, vb, va, vb])) e7 "witness" vb := f7_witness.same (Same.new nt5)
    replace x7 : ExAt (upd H7 t5 (.tup [va, vb, va, vb])) e7 (C 13) := x7.same (Same.new nt5)
    refine ⟨_, rfl, _, rfl, _, rfl, _, rfl, by show 4 ≤ sizeLine; decide, fun u5 nu5 => ?_⟩
    have gu5 : (upd (upd H7 t5 (.tup [va, vb, va, vb])) u5 (.tup [va, vb, va, vb])) t5 = some (.tup [va, vb, va, vb]) := (Same.new nu5) _ _ gt5
    have c20 : Same B (upd (upd H7 t5 (.tup [va, vb, va, vb])) u5 (.tup [va, vb, va, vb])) := c19.trans (Same.new nu5)
    replace f0_line : FldAt K (upd (upd H7 t5 (.tup [va, vb, va, vb])) u5 (.tup [va, vb, va, vb])) e0 "line" va := f0_line.same (Same.new nu5)
    replace f0_word : FldAt K (upd (upd H7 t5 (.tup [va, vb, va, vb])) u5 (.tup [va, vb, va, vb])) e0 "word" vb := f0_word.same (Same.new nu5)
    replace x0 : ExAt (upd (upd H7 t5 (.tup [va, vb, va, vb])) u5 (.tup [va, vb, va, vb])) e0 (C 10) := x0.same (Same.new nu5)
    replace f1_line : FldAt K (upd (upd H7 t5 (.tup [va, vb, va, vb])) u5 (.tup [va, vb, va, vb])) e1 "line" va := f1_line.same (Same.new nu5)
    replace f1_word : FldAt K (upd (upd H7 t5 (.tup [va, vb, va, vb])) u5 (.tup [va, vb, va, vb])) e1 "word" vb := f1_word.same (Same.new nu5)
    replace x1 : ExAt (upd (upd H7 t5 (.tup [va, vb, va, vb])) u5 (.tup [va, vb, va, vb])) e1 (C 10) := x1.same (Same.new nu5)
    replace f2_what : FldAt K (upd (upd H7 t5 (.tup [va, vb, va, vb])) u5 (.tup [va, vb, va, vb])) e2 "what" va := f2_what.same (Same.new nu5)
    replace f2_many : FldAt K (upd (upd H7 t5 (.tup [va, vb, va, vb])) u5 (.tup [va, vb, va, vb])) e2 "many" vb := f2_many.same (Same.new nu5)
    replace f2_limit : FldAt K (upd (upd H7 t5 (.tup [va, vb, va, vb])) u5 (.tup [va, vb, va, vb])) e2 "limit" vc := f2_limit.same (Same.new nu5)
    replace x2 : ExAt (upd (upd H7 t5 (.tup [va, vb, va, vb])) u5 (.tup [va, vb, va, vb])) e2 (C 12) := x2.same (Same.new nu5)
    replace f3_what : FldAt K (upd (upd H7 t5 (.tup [va, vb, va, vb])) u5 (.tup [va, vb, va, vb])) e3 "what" va := f3_what.same (Same.new nu5)
    replace f3_many : FldAt K (upd (upd H7 t5 (.tup [va, vb, va, vb])) u5 (.tup [va, vb, va, vb])) e3 "many" vb := f3_many.same (Same.new nu5)
    replace f3_limit : FldAt K (upd (upd H7 t5 (.tup [va, vb, va, vb])) u5 (.tup [va, vb, va, vb])) e3 "limit" vc := f3_limit.same (Same.new nu5)
    replace x3 : ExAt (upd (upd H7 t5 (.tup [va, vb, va, vb])) u5 (.tup [va, vb, va, vb])) e3 (C 12) := x3.same (Same.new nu5)
    replace f4_what : FldAt K (upd (upd H7 t5 (.tup [va, vb, va, vb])) u5 (.tup [va, vb, va, vb])) e4 "what" va := f4_what.same (Same.new nu5)
    replace f4_line : FldAt K (upd (upd H7 t5 (.tup [va, vb, va, vb])) u5 (.tup [va, vb, va, vb])) e4 "line" vb := f4_line.same (Same.new nu5)
    replace f4_column : FldAt K (upd (upd H7 t5 (.tup [va, vb, va, vb])) u5 (.tup [va, vb, va, vb])) e4 "column" vc := f4_column.same (Same.new nu5)
    replace x4 : ExAt (upd (upd H7 t5 (.tup [va, vb, va, vb])) u5 (.tup [va, vb, va, vb])) e4 (C 1) := x4.same (Same.new nu5)
    replace f5_what : FldAt K (upd (upd H7 t5 (.tup [va, vb, va, vb])) u5 (.tup [va, vb, va, vb])) e5 "what" va := f5_what.same (Same.new nu5)
    replace f5_line : FldAt K (upd (upd H7 t5 (.tup [va, vb, va, vb])) u5 (.tup [va, vb, va, vb])) e5 "line" vb := f5_line.same (Same.new nu5)
    replace f5_column : FldAt K (upd (upd H7 t5 (.tup [va, vb, va, vb])) u5 (.tup [va, vb, va, vb])) e5 "column" vc := f5_column.same (Same.new nu5)
    replace x5 : ExAt (upd (upd H7 t5 (.tup [va, vb, va, vb])) u5 (.tup [va, vb, va, vb])) e5 (C 1) := x5.same (Same.new nu5)
    replace f6_promise : FldAt K (upd (upd H7 t5 (.tup [va, vb, va, vb])) u5 (.tup [va, vb, va, vb])) e6 "promise" va := f6_promise.same (Same.new nu5)
    replace f6_witness : FldAt K (upd (upd H7 t5 (.tup [va, vb, va, vb])) u5 (.tup [va, vb, va, vb])) e6 "witness" vb := f6_witness.same (Same.new nu5)
    replace x6 : ExAt (upd (upd H7 t5 (.tup [va, vb, va, vb])) u5 (.tup [va, vb, va, vb])) e6 (C 13) := x6.same (Same.new nu5)
    replace f7_promise : FldAt K (upd (upd H7 t5 (.tup [va, vb, va, vb])) u5 (.tup [va, vb, va, vb])) e7 "promise" va := f7_promise.same (Same.new nu5)
    replace f7_witness : FldAt K (upd (upd H7 t5 (.tup [va, vb, va, vb])) u5 (.tup [va, vb, va, vb])) e7 "witness" vb := f7_witness.same (Same.new nu5)
    replace x7 : ExAt (upd (upd H7 t5 (.tup [va, vb, va, vb])) u5 (.tup [va, vb, va, vb])) e7 (C 13) := x7.same (Same.new nu5)
    refine ⟨t5, u5, _, rfl, rfl, SqT.of gu5, SqT.of upd_same, ?_, _, rfl, ite2 (fun z => Bool.noConfusion z) (fun _ => ?_)⟩
    · intro z hz
      simp only [List.mem_cons, List.not_mem_nil, or_false] at hz
      rcases hz with rfl | rfl | rfl | rfl
      · exact i_va
      · exact i_vb
      · exact i_va
      · exact i_vb
    generalize (upd (upd H7 t5 (.tup [va, vb, va, vb])) u5 (.tup [va, vb, va, vb])) = G5 at *
    refine ⟨_, rfl, _, rfl, rfl, fun e8 d8 H8 ne8 nd8 nn8 h8 k8 s8 => ?_⟩
    have c21 : Same B H8 := c20.trans s8
    replace x0 : ExAt H8 e0 (C 10) := x0.same s8
    replace x1 : ExAt H8 e1 (C 10) := x1.same s8
    replace x2 : ExAt H8 e2 (C 12) := x2.same s8
    replace x3 : ExAt H8 e3 (C 12) := x3.same s8
    replace x4 : ExAt H8 e4 (C 1) := x4.same s8
    replace x5 : ExAt H8 e5 (C 1) := x5.same s8
    replace x6 : ExAt H8 e6 (C 13) := x6.same s8
    replace x7 : ExAt H8 e7 (C 13) := x7.same s8
    have x8 : ExAt H8 e8 (C 0) := exAt_of h8 k8
    refine ⟨_, rfl, ?_⟩
    refine ⟨_, rfl, rfl, fun e9 d9 H9 ne9 nd9 nn9 h9 k9 s9 => ?_⟩
    have c22 : Same B H9 := c21.trans s9
    replace x0 : ExAt H9 e0 (C 10) := x0.same s9
    replace x1 : ExAt H9 e1 (C 10) := x1.same s9
    replace x2 : ExAt H9 e2 (C 12) := x2.same s9
    replace x3 : ExAt H9 e3 (C 12) := x3.same s9
    replace x4 : ExAt H9 e4 (C 1) := x4.same s9
    replace x5 : ExAt H9 e5 (C 1) := x5.same s9
    replace x6 : ExAt H9 e6 (C 13) := x6.same s9
    replace x7 : ExAt H9 e7 (C 13) := x7.same s9
    replace x8 : ExAt H9 e8 (C 0) := x8.same s9
    have x9 : ExAt H9 e9 (C 2) := exAt_of h9 k9
    refine ⟨_, rfl, _, rfl, rfl, fun e10 d10 H10 ne10 nd10 nn10 h10 k10 s10 => ?_⟩
    have c23 : Same B H10 := c22.trans s10
    replace x0 : ExAt H10 e0 (C 10) := x0.same s10
    replace x1 : ExAt H10 e1 (C 10) := x1.same s10
    replace x2 : ExAt H10 e2 (C 12) := x2.same s10
    replace x3 : ExAt H10 e3 (C 12) := x3.same s10
    replace x4 : ExAt H10 e4 (C 1) := x4.same s10
    replace x5 : ExAt H10 e5 (C 1) := x5.same s10
    replace x6 : ExAt H10 e6 (C 13) := x6.same s10
    replace x7 : ExAt H10 e7 (C 13) := x7.same s10
    replace x8 : ExAt H10 e8 (C 0) := x8.same s10
    replace x9 : ExAt H10 e9 (C 2) := x9.same s10
    have x10 : ExAt H10 e10 (C 3) := exAt_of h10 k10
    refine ⟨_, rfl, _, rfl, rfl, fun e11 d11 H11 ne11 nd11 nn11 h11 k11 s11 => ?_⟩
    have c24 : Same B H11 := c23.trans s11
    replace x0 : ExAt H11 e0 (C 10) := x0.same s11
    replace x1 : ExAt H11 e1 (C 10) := x1.same s11
    replace x2 : ExAt H11 e2 (C 12) := x2.same s11
    replace x3 : ExAt H11 e3 (C 12) := x3.same s11
    replace x4 : ExAt H11 e4 (C 1) := x4.same s11
    replace x5 : ExAt H11 e5 (C 1) := x5.same s11
    replace x6 : ExAt H11 e6 (C 13) := x6.same s11
    replace x7 : ExAt H11 e7 (C 13) := x7.same s11
    replace x8 : ExAt H11 e8 (C 0) := x8.same s11
    replace x9 : ExAt H11 e9 (C 2) := x9.same s11
    replace x10 : ExAt H11 e10 (C 3) := x10.same s11
    have x11 : ExAt H11 e11 (C 4) := exAt_of h11 k11
    refine ⟨_, rfl, rfl, fun e12 d12 H12 ne12 nd12 nn12 h12 k12 s12 => ?_⟩
    have c25 : Same B H12 := c24.trans s12
    replace x0 : ExAt H12 e0 (C 10) := x0.same s12
    replace x1 : ExAt H12 e1 (C 10) := x1.same s12
    replace x2 : ExAt H12 e2 (C 12) := x2.same s12
    replace x3 : ExAt H12 e3 (C 12) := x3.same s12
    replace x4 : ExAt H12 e4 (C 1) := x4.same s12
    replace x5 : ExAt H12 e5 (C 1) := x5.same s12
    replace x6 : ExAt H12 e6 (C 13) := x6.same s12
    replace x7 : ExAt H12 e7 (C 13) := x7.same s12
    replace x8 : ExAt H12 e8 (C 0) := x8.same s12
    replace x9 : ExAt H12 e9 (C 2) := x9.same s12
    replace x10 : ExAt H12 e10 (C 3) := x10.same s12
    replace x11 : ExAt H12 e11 (C 4) := x11.same s12
    have x12 : ExAt H12 e12 (C 5) := exAt_of h12 k12
    refine ⟨_, rfl, rfl, fun e13 d13 H13 ne13 nd13 nn13 h13 k13 s13 => ?_⟩
    have c26 : Same B H13 := c25.trans s13
    replace x0 : ExAt H13 e0 (C 10) := x0.same s13
    replace x1 : ExAt H13 e1 (C 10) := x1.same s13
    replace x2 : ExAt H13 e2 (C 12) := x2.same s13
    replace x3 : ExAt H13 e3 (C 12) := x3.same s13
    replace x4 : ExAt H13 e4 (C 1) := x4.same s13
    replace x5 : ExAt H13 e5 (C 1) := x5.same s13
    replace x6 : ExAt H13 e6 (C 13) := x6.same s13
    replace x7 : ExAt H13 e7 (C 13) := x7.same s13
    replace x8 : ExAt H13 e8 (C 0) := x8.same s13
    replace x9 : ExAt H13 e9 (C 2) := x9.same s13
    replace x10 : ExAt H13 e10 (C 3) := x10.same s13
    replace x11 : ExAt H13 e11 (C 4) := x11.same s13
    replace x12 : ExAt H13 e12 (C 5) := x12.same s13
    have x13 : ExAt H13 e13 (C 6) := exAt_of h13 k13
    refine ⟨_, rfl, rfl, fun e14 d14 H14 ne14 nd14 nn14 h14 k14 s14 => ?_⟩
    have c27 : Same B H14 := c26.trans s14
    replace x0 : ExAt H14 e0 (C 10) := x0.same s14
    replace x1 : ExAt H14 e1 (C 10) := x1.same s14
    replace x2 : ExAt H14 e2 (C 12) := x2.same s14
    replace x3 : ExAt H14 e3 (C 12) := x3.same s14
    replace x4 : ExAt H14 e4 (C 1) := x4.same s14
    replace x5 : ExAt H14 e5 (C 1) := x5.same s14
    replace x6 : ExAt H14 e6 (C 13) := x6.same s14
    replace x7 : ExAt H14 e7 (C 13) := x7.same s14
    replace x8 : ExAt H14 e8 (C 0) := x8.same s14
    replace x9 : ExAt H14 e9 (C 2) := x9.same s14
    replace x10 : ExAt H14 e10 (C 3) := x10.same s14
    replace x11 : ExAt H14 e11 (C 4) := x11.same s14
    replace x12 : ExAt H14 e12 (C 5) := x12.same s14
    replace x13 : ExAt H14 e13 (C 6) := x13.same s14
    have x14 : ExAt H14 e14 (C 7) := exAt_of h14 k14
    refine ⟨_, rfl, _, rfl, rfl, fun e15 d15 H15 ne15 nd15 nn15 h15 k15 s15 => ?_⟩
    have c28 : Same B H15 := c27.trans s15
    replace x0 : ExAt H15 e0 (C 10) := x0.same s15
    replace x1 : ExAt H15 e1 (C 10) := x1.same s15
    replace x2 : ExAt H15 e2 (C 12) := x2.same s15
    replace x3 : ExAt H15 e3 (C 12) := x3.same s15
    replace x4 : ExAt H15 e4 (C 1) := x4.same s15
    replace x5 : ExAt H15 e5 (C 1) := x5.same s15
    replace x6 : ExAt H15 e6 (C 13) := x6.same s15
    replace x7 : ExAt H15 e7 (C 13) := x7.same s15
    replace x8 : ExAt H15 e8 (C 0) := x8.same s15
    replace x9 : ExAt H15 e9 (C 2) := x9.same s15
    replace x10 : ExAt H15 e10 (C 3) := x10.same s15
    replace x11 : ExAt H15 e11 (C 4) := x11.same s15
    replace x12 : ExAt H15 e12 (C 5) := x12.same s15
    replace x13 : ExAt H15 e13 (C 6) := x13.same s15
    replace x14 : ExAt H15 e14 (C 7) := x14.same s15
    have x15 : ExAt H15 e15 (C 8) := exAt_of h15 k15
    refine ⟨_, rfl, _, rfl, rfl, fun e16 d16 H16 ne16 nd16 nn16 h16 k16 s16 => ?_⟩
    have c29 : Same B H16 := c28.trans s16
    replace x0 : ExAt H16 e0 (C 10) := x0.same s16
    replace x1 : ExAt H16 e1 (C 10) := x1.same s16
    replace x2 : ExAt H16 e2 (C 12) := x2.same s16
    replace x3 : ExAt H16 e3 (C 12) := x3.same s16
    replace x4 : ExAt H16 e4 (C 1) := x4.same s16
    replace x5 : ExAt H16 e5 (C 1) := x5.same s16
    replace x6 : ExAt H16 e6 (C 13) := x6.same s16
    replace x7 : ExAt H16 e7 (C 13) := x7.same s16
    replace x8 : ExAt H16 e8 (C 0) := x8.same s16
    replace x9 : ExAt H16 e9 (C 2) := x9.same s16
    replace x10 : ExAt H16 e10 (C 3) := x10.same s16
    replace x11 : ExAt H16 e11 (C 4) := x11.same s16
    replace x12 : ExAt H16 e12 (C 5) := x12.same s16
    replace x13 : ExAt H16 e13 (C 6) := x13.same s16
    replace x14 : ExAt H16 e14 (C 7) := x14.same s16
    replace x15 : ExAt H16 e15 (C 8) := x15.same s16
    have x16 : ExAt H16 e16 (C 9) := exAt_of h16 k16
    refine ⟨_, rfl, ?_⟩
    refine ⟨_, rfl, rfl, fun e17 d17 H17 ne17 nd17 nn17 h17 k17 s17 => ?_⟩
    have c30 : Same B H17 := c29.trans s17
    replace x0 : ExAt H17 e0 (C 10) := x0.same s17
    replace x1 : ExAt H17 e1 (C 10) := x1.same s17
    replace x2 : ExAt H17 e2 (C 12) := x2.same s17
    replace x3 : ExAt H17 e3 (C 12) := x3.same s17
    replace x4 : ExAt H17 e4 (C 1) := x4.same s17
    replace x5 : ExAt H17 e5 (C 1) := x5.same s17
    replace x6 : ExAt H17 e6 (C 13) := x6.same s17
    replace x7 : ExAt H17 e7 (C 13) := x7.same s17
    replace x8 : ExAt H17 e8 (C 0) := x8.same s17
    replace x9 : ExAt H17 e9 (C 2) := x9.same s17
    replace x10 : ExAt H17 e10 (C 3) := x10.same s17
    replace x11 : ExAt H17 e11 (C 4) := x11.same s17
    replace x12 : ExAt H17 e12 (C 5) := x12.same s17
    replace x13 : ExAt H17 e13 (C 6) := x13.same s17
    replace x14 : ExAt H17 e14 (C 7) := x14.same s17
    replace x15 : ExAt H17 e15 (C 8) := x15.same s17
    replace x16 : ExAt H17 e16 (C 9) := x16.same s17
    have x17 : ExAt H17 e17 (C 11) := exAt_of h17 k17
    refine ⟨_, rfl, _, rfl, ?_⟩
    intro b14 nb14
    have y14 : ExAt (upd H17 b14 (exo b14 (C 14) none)) b14 (C 14) := exAt_new
    have c31 : Same B (upd H17 b14 (exo b14 (C 14) none)) := c30.trans (Same.new nb14)
    replace x0 : ExAt (upd H17 b14 (exo b14 (C 14) none)) e0 (C 10) := x0.same (Same.new nb14)
    replace x1 : ExAt (upd H17 b14 (exo b14 (C 14) none)) e1 (C 10) := x1.same (Same.new nb14)
    replace x2 : ExAt (upd H17 b14 (exo b14 (C 14) none)) e2 (C 12) := x2.same (Same.new nb14)
    replace x3 : ExAt (upd H17 b14 (exo b14 (C 14) none)) e3 (C 12) := x3.same (Same.new nb14)
    replace x4 : ExAt (upd H17 b14 (exo b14 (C 14) none)) e4 (C 1) := x4.same (Same.new nb14)
    replace x5 : ExAt (upd H17 b14 (exo b14 (C 14) none)) e5 (C 1) := x5.same (Same.new nb14)
    replace x6 : ExAt (upd H17 b14 (exo b14 (C 14) none)) e6 (C 13) := x6.same (Same.new nb14)
    replace x7 : ExAt (upd H17 b14 (exo b14 (C 14) none)) e7 (C 13) := x7.same (Same.new nb14)
    replace x8 : ExAt (upd H17 b14 (exo b14 (C 14) none)) e8 (C 0) := x8.same (Same.new nb14)
    replace x9 : ExAt (upd H17 b14 (exo b14 (C 14) none)) e9 (C 2) := x9.same (Same.new nb14)
    replace x10 : ExAt (upd H17 b14 (exo b14 (C 14) none)) e10 (C 3) := x10.same (Same.new nb14)
    replace x11 : ExAt (upd H17 b14 (exo b14 (C 14) none)) e11 (C 4) := x11.same (Same.new nb14)
    replace x12 : ExAt (upd H17 b14 (exo b14 (C 14) none)) e12 (C 5) := x12.same (Same.new nb14)
    replace x13 : ExAt (upd H17 b14 (exo b14 (C 14) none)) e13 (C 6) := x13.same (Same.new nb14)
    replace x14 : ExAt (upd H17 b14 (exo b14 (C 14) none)) e14 (C 7) := x14.same (Same.new nb14)
    replace x15 : ExAt (upd H17 b14 (exo b14 (C 14) none)) e15 (C 8) := x15.same (Same.new nb14)
    replace x16 : ExAt (upd H17 b14 (exo b14 (C 14) none)) e16 (C 9) := x16.same (Same.new nb14)
    replace x17 : ExAt (upd H17 b14 (exo b14 (C 14) none)) e17 (C 11) := x17.same (Same.new nb14)
    intro b15 nb15
    have y15 : ExAt (upd (upd H17 b14 (exo b14 (C 14) none)) b15 (exo b15 (C 15) none)) b15 (C 15) := exAt_new
    have c32 : Same B (upd (upd H17 b14 (exo b14 (C 14) none)) b15 (exo b15 (C 15) none)) := c31.trans (Same.new nb15)
    replace x0 : ExAt (upd (upd H17 b14 (exo b14 (C 14) none)) b15 (exo b15 (C 15) none)) e0 (C 10) := x0.same (Same.new nb15)
    replace x1 : ExAt (upd (upd H17 b14 (exo b14 (C 14) none)) b15 (exo b15 (C 15) none)) e1 (C 10) := x1.same (Same.new nb15)
    replace x2 : ExAt (upd (upd H17 b14 (exo b14 (C 14) none)) b15 (exo b15 (C 15) none)) e2 (C 12) := x2.same (Same.new nb15)
    replace x3 : ExAt (upd (upd H17 b14 (exo b14 (C 14) none)) b15 (exo b15 (C 15) none)) e3 (C 12) := x3.same (Same.new nb15)
    replace x4 : ExAt (upd (upd H17 b14 (exo b14 (C 14) none)) b15 (exo b15 (C 15) none)) e4 (C 1) := x4.same (Same.new nb15)
    replace x5 : ExAt (upd (upd H17 b14 (exo b14 (C 14) none)) b15 (exo b15 (C 15) none)) e5 (C 1) := x5.same (Same.new nb15)
    replace x6 : ExAt (upd (upd H17 b14 (exo b14 (C 14) none)) b15 (exo b15 (C 15) none)) e6 (C 13) := x6.same (Same.new nb15)
    replace x7 : ExAt (upd (upd H17 b14 (exo b14 (C 14) none)) b15 (exo b15 (C 15) none)) e7 (C 13) := x7.same (Same.new nb15)
    replace x8 : ExAt (upd (upd H17 b14 (exo b14 (C 14) none)) b15 (exo b15 (C 15) none)) e8 (C 0) := x8.same (Same.new nb15)
    replace x9 : ExAt (upd (upd H17 b14 (exo b14 (C 14) none)) b15 (exo b15 (C 15) none)) e9 (C 2) := x9.same (Same.new nb15)
    replace x10 : ExAt (upd (upd H17 b14 (exo b14 (C 14) none)) b15 (exo b15 (C 15) none)) e10 (C 3) := x10.same (Same.new nb15)
    replace x11 : ExAt (upd (upd H17 b14 (exo b14 (C 14) none)) b15 (exo b15 (C 15) none)) e11 (C 4) := x11.same (Same.new nb15)
    replace x12 : ExAt (upd (upd H17 b14 (exo b14 (C 14) none)) b15 (exo b15 (C 15) none)) e12 (C 5) := x12.same (Same.new nb15)
    replace x13 : ExAt (upd (upd H17 b14 (exo b14 (C 14) none)) b15 (exo b15 (C 15) none)) e13 (C 6) := x13.same (Same.new nb15)
    replace x14 : ExAt (upd (upd H17 b14 (exo b14 (C 14) none)) b15 (exo b15 (C 15) none)) e14 (C 7) := x14.same (Same.new nb15)
    replace x15 : ExAt (upd (upd H17 b14 (exo b14 (C 14) none)) b15 (exo b15 (C 15) none)) e15 (C 8) := x15.same (Same.new nb15)
    replace x16 : ExAt (upd (upd H17 b14 (exo b14 (C 14) none)) b15 (exo b15 (C 15) none)) e16 (C 9) := x16.same (Same.new nb15)
    replace x17 : ExAt (upd (upd H17 b14 (exo b14 (C 14) none)) b15 (exo b15 (C 15) none)) e17 (C 11) := x17.same (Same.new nb15)
    replace y14 : ExAt (upd (upd H17 b14 (exo b14 (C 14) none)) b15 (exo b15 (C 15) none)) b14 (C 14) := y14.same (Same.new nb15)
    refine ⟨by show 16 ≤ sizeLine; decide, fun l nl => ?_⟩
    have gl : (upd (upd (upd H17 b14 (exo b14 (C 14) none)) b15 (exo b15 (C 15) none)) l (.lst [V.ref e8, V.ref e4, V.ref e9, V.ref e10, V.ref e11, V.ref e12, V.ref e13, V.ref e14, V.ref e15, V.ref e16, V.ref e0, V.ref e17, V.ref e2, V.ref e6, V.ref b14, V.ref b15])) l = some (.lst [V.ref e8, V.ref e4, V.ref e9, V.ref e10, V.ref e11, V.ref e12, V.ref e13, V.ref e14, V.ref e15, V.ref e16, V.ref e0, V.ref e17, V.ref e2, V.ref e6, V.ref b14, V.ref b15]) := upd_same
    have c33 : Same B (upd (upd (upd H17 b14 (exo b14 (C 14) none)) b15 (exo b15 (C 15) none)) l (.lst [V.ref e8, V.ref e4, V.ref e9, V.ref e10, V.ref e11, V.ref e12, V.ref e13, V.ref e14, V.ref e15, V.ref e16, V.ref e0, V.ref e17, V.ref e2, V.ref e6, V.ref b14, V.ref b15])) := c32.trans (Same.new nl)
    replace x0 : ExAt (upd (upd (upd H17 b14 (exo b14 (C 14) none)) b15 (exo b15 (C 15) none)) l (.lst [V.ref e8, V.ref e4, V.ref e9, V.ref e10, V.ref e11, V.ref e12, V.ref e13, V.ref e14, V.ref e15, V.ref e16, V.ref e0, V.ref e17, V.ref e2, V.ref e6, V.ref b14, V.ref b15])) e0 (C 10) := x0.same (Same.new nl)
    replace x1 : ExAt (upd (upd (upd H17 b14 (exo b14 (C 14) none)) b15 (exo b15 (C 15) none)) l (.lst [V.ref e8, V.ref e4, V.ref e9, V.ref e10, V.ref e11, V.ref e12, V.ref e13, V.ref e14, V.ref e15, V.ref e16, V.ref e0, V.ref e17, V.ref e2, V.ref e6, V.ref b14, V.ref b15])) e1 (C 10) := x1.same (Same.new nl)
    replace x2 : ExAt (upd (upd (upd H17 b14 (exo b14 (C 14) none)) b15 (exo b15 (C 15) none)) l (.lst [V.ref e8, V.ref e4, V.ref e9, V.ref e10, V.ref e11, V.ref e12, V.ref e13, V.ref e14, V.ref e15, V.ref e16, V.ref e0, V.ref e17, V.ref e2, V.ref e6, V.ref b14, V.ref b15])) e2 (C 12) := x2.same (Same.new nl)
    replace x3 : ExAt (upd (upd (upd H17 b14 (exo b14 (C 14) none)) b15 (exo b15 (C 15) none)) l (.lst [V.ref e8, V.ref e4, V.ref e9, V.ref e10, V.ref e11, V.ref e12, V.ref e13, V.ref e14, V.ref e15, V.ref e16, V.ref e0, V.ref e17, V.ref e2, V.ref e6, V.ref b14, V.ref b15])) e3 (C 12) := x3.same (Same.new nl)
    replace x4 : ExAt (upd (upd (upd H17 b14 (exo b14 (C 14) none)) b15 (exo b15 (C 15) none)) l (.lst [V.ref e8, V.ref e4, V.ref e9, V.ref e10, V.ref e11, V.ref e12, V.ref e13, V.ref e14, V.ref e15, V.ref e16, V.ref e0, V.ref e17, V.ref e2, V.ref e6, V.ref b14, V.ref b15])) e4 (C 1) := x4.same (Same.new nl)
    replace x5 : ExAt (upd (upd (upd H17 b14 (exo b14 (C 14) none)) b15 (exo b15 (C 15) none)) l (.lst [V.ref e8, V.ref e4, V.ref e9, V.ref e10, V.ref e11, V.ref e12, V.ref e13, V.ref e14, V.ref e15, V.ref e16, V.ref e0, V.ref e17, V.ref e2, V.ref e6, V.ref b14, V.ref b15])) e5 (C 1) := x5.same (Same.new nl)
    replace x6 : ExAt (upd (upd (upd H17 b14 (exo b14 (C 14) none)) b15 (exo b15 (C 15) none)) l (.lst [V.ref e8, V.ref e4, V.ref e9, V.ref e10, V.ref e11, V.ref e12, V.ref e13, V.ref e14, V.ref e15, V.ref e16, V.ref e0, V.ref e17, V.ref e2, V.ref e6, V.ref b14, V.ref b15])) e6 (C 13) := x6.same (Same.new nl)
    replace x7 : ExAt (upd (upd (upd H17 b14 (exo b14 (C 14) none)) b15 (exo b15 (C 15) none)) l (.lst [V.ref e8, V.ref e4, V.ref e9, V.ref e10, V.ref e11, V.ref e12, V.ref e13, V.ref e14, V.ref e15, V.ref e16, V.ref e0, V.ref e17, V.ref e2, V.ref e6, V.ref b14, V.ref b15])) e7 (C 13) := x7.same (Same.new nl)
    replace x8 : ExAt (upd (upd (upd H17 b14 (exo b14 (C 14) none)) b15 (exo b15 (C 15) none)) l (.lst [V.ref e8, V.ref e4, V.ref e9, V.ref e10, V.ref e11, V.ref e12, V.ref e13, V.ref e14, V.ref e15, V.ref e16, V.ref e0, V.ref e17, V.ref e2, V.ref e6, V.ref b14, V.ref b15])) e8 (C 0) := x8.same (Same.new nl)
    replace x9 : ExAt (upd (upd (upd H17 b14 (exo b14 (C 14) none)) b15 (exo b15 (C 15) none)) l (.lst [V.ref e8, V.ref e4, V.ref e9, V.ref e10, V.ref e11, V.ref e12, V.ref e13, V.ref e14, V.ref e15, V.ref e16, V.ref e0, V.ref e17, V.ref e2, V.ref e6, V.ref b14, V.ref b15])) e9 (C 2) := x9.same (Same.new nl)
    replace x10 : ExAt (upd (upd (upd H17 b14 (exo b14 (C 14) none)) b15 (exo b15 (C 15) none)) l (.lst [V.ref e8, V.ref e4, V.ref e9, V.ref e10, V.ref e11, V.ref e12, V.ref e13, V.ref e14, V.ref e15, V.ref e16, V.ref e0, V.ref e17, V.ref e2, V.ref e6, V.ref b14, V.ref b15])) e10 (C 3) := x10.same (Same.new nl)
    replace x11 : ExAt (upd (upd (upd H17 b14 (exo b14 (C 14) none)) b15 (exo b15 (C 15) none)) l (.lst [V.ref e8, V.ref e4, V.ref e9, V.ref e10, V.ref e11, V.ref e12, V.ref e13, V.ref e14, V.ref e15, V.ref e16, V.ref e0, V.ref e17, V.ref e2, V.ref e6, V.ref b14, V.ref b15])) e11 (C 4) := x11.same (Same.new nl)
    replace x12 : ExAt (upd (upd (upd H17 b14 (exo b14 (C 14) none)) b15 (exo b15 (C 15) none)) l (.lst [V.ref e8, V.ref e4, V.ref e9, V.ref e10, V.ref e11, V.ref e12, V.ref e13, V.ref e14, V.ref e15, V.ref e16, V.ref e0, V.ref e17, V.ref e2, V.ref e6, V.ref b14, V.ref b15])) e12 (C 5) := x12.same (Same.new nl)
    replace x13 : ExAt (upd (upd (upd H17 b14 (exo b14 (C 14) none)) b15 (exo b15 (C 15) none)) l (.lst [V.ref e8, V.ref e4, V.ref e9, V.ref e10, V.ref e11, V.ref e12, V.ref e13, V.ref e14, V.ref e15, V.ref e16, V.ref e0, V.ref e17, V.ref e2, V.ref e6, V.ref b14, V.ref b15])) e13 (C 6) := x13.same (Same.new nl)
    replace x14 : ExAt (upd (upd (upd H17 b14 (exo b14 (C 14) none)) b15 (exo b15 (C 15) none)) l (.lst [V.ref e8, V.ref e4, V.ref e9, V.ref e10, V.ref e11, V.ref e12, V.ref e13, V.ref e14, V.ref e15, V.ref e16, V.ref e0, V.ref e17, V.ref e2, V.ref e6, V.ref b14, V.ref b15])) e14 (C 7) := x14.same (Same.new nl)
    replace x15 : ExAt (upd (upd (upd H17 b14 (exo b14 (C 14) none)) b15 (exo b15 (C 15) none)) l (.lst [V.ref e8, V.ref e4, V.ref e9, V.ref e10, V.ref e11, V.ref e12, V.ref e13, V.ref e14, V.ref e15, V.ref e16, V.ref e0, V.ref e17, V.ref e2, V.ref e6, V.ref b14, V.ref b15])) e15 (C 8) := x15.same (Same.new nl)
    replace x16 : ExAt (upd (upd (upd H17 b14 (exo b14 (C 14) none)) b15 (exo b15 (C 15) none)) l (.lst [V.ref e8, V.ref e4, V.ref e9, V.ref e10, V.ref e11, V.ref e12, V.ref e13, V.ref e14, V.ref e15, V.ref e16, V.ref e0, V.ref e17, V.ref e2, V.ref e6, V.ref b14, V.ref b15])) e16 (C 9) := x16.same (Same.new nl)
    replace x17 : ExAt (upd (upd (upd H17 b14 (exo b14 (C 14) none)) b15 (exo b15 (C 15) none)) l (.lst [V.ref e8, V.ref e4, V.ref e9, V.ref e10, V.ref e11, V.ref e12, V.ref e13, V.ref e14, V.ref e15, V.ref e16, V.ref e0, V.ref e17, V.ref e2, V.ref e6, V.ref b14, V.ref b15])) e17 (C 11) := x17.same (Same.new nl)
    replace y14 : ExAt (upd (upd (upd H17 b14 (exo b14 (C 14) none)) b15 (exo b15 (C 15) none)) l (.lst [V.ref e8, V.ref e4, V.ref e9, V.ref e10, V.ref e11, V.ref e12, V.ref e13, V.ref e14, V.ref e15, V.ref e16, V.ref e0, V.ref e17, V.ref e2, V.ref e6, V.ref b14, V.ref b15])) b14 (C 14) := y14.same (Same.new nl)
    replace y15 : ExAt (upd (upd (upd H17 b14 (exo b14 (C 14) none)) b15 (exo b15 (C 15) none)) l (.lst [V.ref e8, V.ref e4, V.ref e9, V.ref e10, V.ref e11, V.ref e12, V.ref e13, V.ref e14, V.ref e15, V.ref e16, V.ref e0, V.ref e17, V.ref e2, V.ref e6, V.ref b14, V.ref b15])) b15 (C 15) := y15.same (Same.new nl)
    have items : ∀ i, i < 16 → ∃ e, ([V.ref e8, V.ref e4, V.ref e9, V.ref e10, V.ref e11, V.ref e12, V.ref e13, V.ref e14, V.ref e15, V.ref e16, V.ref e0, V.ref e17, V.ref e2, V.ref e6, V.ref b14, V.ref b15] : List V)[i]? = some (.ref e) ∧ ExAt (upd (upd (upd H17 b14 (exo b14 (C 14) none)) b15 (exo b15 (C 15) none)) l (.lst [V.ref e8, V.ref e4, V.ref e9, V.ref e10, V.ref e11, V.ref e12, V.ref e13, V.ref e14, V.ref e15, V.ref e16, V.ref e0, V.ref e17, V.ref e2, V.ref e6, V.ref b14, V.ref b15])) e (C i) := fun i hi => match i, hi with
      | 0, _ => ⟨e8, rfl, x8⟩
      | 1, _ => ⟨e4, rfl, x4⟩
      | 2, _ => ⟨e9, rfl, x9⟩
      | 3, _ => ⟨e10, rfl, x10⟩
      | 4, _ => ⟨e11, rfl, x11⟩
      | 5, _ => ⟨e12, rfl, x12⟩
      | 6, _ => ⟨e13, rfl, x13⟩
      | 7, _ => ⟨e14, rfl, x14⟩
      | 8, _ => ⟨e15, rfl, x15⟩
      | 9, _ => ⟨e16, rfl, x16⟩
      | 10, _ => ⟨e0, rfl, x0⟩
      | 11, _ => ⟨e17, rfl, x17⟩
      | 12, _ => ⟨e2, rfl, x2⟩
      | 13, _ => ⟨e6, rfl, x6⟩
      | 14, _ => ⟨b14, rfl, y14⟩
      | 15, _ => ⟨b15, rfl, y15⟩
      | n + 16, h => absurd h (by omega)
    generalize hxs : ([V.ref e8, V.ref e4, V.ref e9, V.ref e10, V.ref e11, V.ref e12, V.ref e13, V.ref e14, V.ref e15, V.ref e16, V.ref e0, V.ref e17, V.ref e2, V.ref e6, V.ref b14, V.ref b15] : List V) = xs at *
    have lxs : xs.length = 16 := by rw [← hxs]; rfl
    generalize upd (upd (upd H17 b14 (exo b14 (C 14) none)) b15 (exo b15 (C 15) none)) l (.lst xs) = Hb at *
    refine ⟨_, rfl, l, xs, rfl, .inl (SqL.of gl), _, rfl, by rw [lxs]; decide, by rw [lxs]; decide, ?_⟩
    rw [lxs]
    refine for_range (lo := 0) (n := 16) (fun i σ H3 => ∃ v, σ = [some (.ref a0), some (.ref p), some va, some vb, some vc, some (.ref e0), some (.ref e1), some (.ref e2), some (.ref e3), some (.ref e4), some (.ref e5), some (.ref e6), some (.ref e7), some (.ref l), v] ∧ Same Hb H3) ⟨none, rfl, Same.refl _⟩ ?_ ?_
    · rintro i σ H3 hi ⟨v, rfl, s3⟩
      obtain ⟨e, he, xe⟩ := items i hi
      have xe3 := xe.same s3
      have hat : atI xs ((0 : Int) + (i : Int)) = some (.ref e) := at_of (j := i) (by omega) he
      refine ⟨_, rfl, _, rfl, l, _, _, _, rfl, rfl, SqL.of (s3 _ _ gl), hat, e, C i, _, rfl, xe3, T.tab i hi, fun q H4 nq s4 hq => ?_⟩
      rw [own_one i hi] at hq
      refine ⟨_, rfl, by show 1 ≤ sizeLine; decide, fun r nr => ?_⟩
      have s5 : Same H4 (upd H4 r (.lst [V.int (0 + (i : Int))])) := Same.new nr
      have z0 : (0 : Int) + (i : Int) = (i : Int) := by omega
      have dq : Dp K (upd H4 r (.lst [V.int (0 + (i : Int))])) (.ref q) (.list [.int (i : Nat)]) := .lst (SqL.of (s5 _ _ hq)) (.cons (.int _) .nil)
      have dr : Dp K (upd H4 r (.lst [V.int (0 + (i : Int))])) (.ref r) (.list [.int (0 + (i : Int))]) := .lst (SqL.of upd_same) (.cons (.int _) .nil)
      have sh : ∀ n : Int, SeqAt.shaped (.list [.int n]) = true := fun n => by simp [SeqAt.shaped, PyData.canLay0, PyData.canLayAll0, PyData.depth, PyData.depthAll]
      have ev : PyData.eqv (.list [.int (i : Nat)]) (.list [.int (0 + (i : Int))]) = true := by
        rw [z0]
        exact SeqAt.eqv_refl _ (by simp [PyData.canLay0, PyData.canLayAll0])
      refine ⟨_, _, dq, dr, sh _, sh _, _, rfl, ite2 (fun z => by rw [ev] at z; cases z) (fun _ => ?_)⟩
      have s35 := (s3.trans s4).trans s5
      obtain ⟨d', hd1, hd2⟩ := xe.same s35
      refine ⟨_, rfl, _, rfl, l, _, _, _, rfl, rfl, SqL.of (s35 _ _ gl), hat, e, C i, d', .ref G, .ref G, true, rfl, (T.tab i hi).c, hd1, hd2, fun u r => r, T.isG i hi, _, rfl, ite2 (fun z => Bool.noConfusion (show false = true from z)) (fun _ => ?_)⟩
      refine ⟨_, rfl, _, rfl, l, _, _, _, rfl, rfl, SqL.of (s35 _ _ gl), hat, e, C i, d', .ty "ValueError", .type "ValueError", true, rfl, (T.tab i hi).c, hd1, hd2, fun u r => r, T.isV i hi, _, rfl, ite2 (fun z => Bool.noConfusion (show false = true from z)) (fun _ => ?_)⟩
      exact ⟨_, rfl, s35⟩
    · rintro σ H3 ⟨v, rfl, s3⟩
      intro g ng
      obtain ⟨dG, hd1, hd2⟩ := (exAt_new : ExAt (upd H3 g (exo g G none)) g G)
      refine ⟨g, G, dG, .ty "KeyError", .type "KeyError", false, rfl, T.tabG.c, hd1, hd2, fun u r => r, T.isK, false, rfl, true, rfl, iteT ?_⟩
      intro g2 ng2
      refine ⟨g2, G, _, rfl, exAt_new, T.tabG, fun q H4 nq s4 hq => ?_⟩
      rw [own_none] at hq
      refine ⟨by show 0 ≤ sizeLine; decide, fun r nr => ?_⟩
      have s5 : Same H4 (upd H4 r (.lst [])) := Same.new nr
      have sh : SeqAt.shaped (.list []) = true := by simp [SeqAt.shaped, PyData.canLay0, PyData.canLayAll0, PyData.depth, PyData.depthAll]
      have ev : PyData.eqv (.list []) (.list []) = true := SeqAt.eqv_refl _ (by simp [PyData.canLay0, PyData.canLayAll0])
      refine ⟨_, _, .lst (SqL.of (s5 _ _ hq)) .nil, .lst (SqL.of upd_same) .nil, sh, sh, ?_⟩
      rw [ev]
      exact k _
end
end Og

set_option Elab.async false
set_option linter.all false
set_option maxRecDepth 100000
set_option maxHeartbeats 4000000
/-! Facts of the written part, as truths that one reckoning shows. -/
namespace Og
open PySem L2
/-- an error class (its look-ups, its subclass of BaseException, its dict), as isinstance, except and its fields ask -/
def excB (K : PySem.W.Frag) (D : Addr) : Bool :=
  decide (PySem.W.findIn K (.ref D) "__getattribute__" = some (some (.builtin "BaseException.__getattribute__"))) && (decide (PySem.W.findIn K (.ref D) "__getattr__" = some none) &&
  (decide (PySem.W.subIn K (.ref D) (.type "BaseException") = some true) && (PySem.W.hasDictIn K D && (decide (PySem.W.findIn K (.ref D) "__class__" = some (some (.builtin "object.__class__"))) &&
  (decide (PySem.W.specialIn K (.builtin "object.__class__") "__get__" = some (some (.builtin "getset_descriptor.__get__"))) && (decide (PySem.W.takesIn K (.builtin "object.__class__") = some true) && decide (PySem.W.mroIn K D (.type "object") = some true)))))))
theorem excB_ok {K : PySem.W.Frag} {D : Addr} (h : excB K D = true) : ExcC K D := by
  unfold excB at h
  simp only [Bool.and_eq_true, decide_eq_true_eq] at h
  obtain ⟨h1, h2, h3, h4, h5, h6, h7, h8⟩ := h
  exact ⟨h1, h2, h3, h4, h5, h6, h7, h8⟩
theorem excB_xf {K : PySem.W.Frag} {D : Addr} (h : excB K D = true) : XfC K D := by
  have e := excB_ok h
  exact ⟨e.hg, e.hk, e.hs, e.hd⟩
/-- what its making asks besides -/
def mkB (K : PySem.W.Frag) (D : Addr) : Bool := decide (PySem.W.findIn K (.ref D) "__setattr__" = some (some (.builtin "object.__setattr__"))) && (decide (PySem.W.subIn K (.ref D) (.type "BaseException") = some true) && (decide (PySem.W.typeIn K (.ref D) = some (.type "type")) && PySem.W.keepIn K (.ref D)))
def noB (K : PySem.W.Frag) (D : Addr) (fs : List Str) : Bool := fs.all fun f => decide (PySem.W.findIn K (.ref D) f = some none)
theorem noB_ok {K : PySem.W.Frag} {D : Addr} {fs : List Str} (h : noB K D fs = true) : ∀ f ∈ fs, PySem.W.findIn K (.ref D) f = some none := fun f hf => of_decide_eq_true (List.all_eq_true.mp h f hf)
theorem ini_of {K : PySem.W.Frag} {C : Addr} {fs : List Str} {nm q : Str} {N : Addr} {bs bm : List Value} {sn : List Str} {sub : List Value} {ab : Bool} {col : Option Bool} {dd : Option Addr} {k0 k1 k2 k3 k5 : Option Value}
    (xL : K.lookup C = some (excClassObj nm q C N bs bm true sn sub ab col dd k0 k1 k2 k3 k5 "ValueError.__new__")) (rf : PySem.HandSPX.refsVE bm = true) (h1 : excB K C = true) (h2 : mkB K C = true) (h3 : noB K C fs = true) : IniTxt K C fs := by
  unfold mkB at h2
  simp only [Bool.and_eq_true, decide_eq_true_eq] at h2
  obtain ⟨a1, a2, a3, a4⟩ := h2
  exact ⟨⟨⟨nm, q, N, bs, bm, sn, sub, ab, col, dd, k0, k1, k2, k3, k5, xL, rf⟩, a1, a2, a3, a4⟩, excB_xf h1, noB_ok h3⟩
/-- names that the module does not hold -/
def freeB (K : PySem.W.Frag) (xs : List Str) : Bool := xs.all fun x => decide (PySem.W.nsIn K mainGlobals x = some none)
theorem freeB_ok {K : PySem.W.Frag} {h : Heap} {mg : Str → Option Value} {xs : List Str} (X : K.In h) (G : h.Ns mainGlobals mg) (b : freeB K xs = true) : ∀ x ∈ xs, mg x = none := fun x hx => PySem.W.mg_none_of X G (of_decide_eq_true (List.all_eq_true.mp b x hx))
/-- isinstance of every class by every class -/
def kitB (K : PySem.W.Frag) (C : Nat → Addr) (n : Nat) : Bool := (List.range n).all fun i => (List.range n).all fun j => decide (PySem.W.kitOne K (.ref (C i)) (.ref (C j)) = some (decide (j = i)))
theorem kitB_ok {K : PySem.W.Frag} {C : Nat → Addr} {n : Nat} (h : kitB K C n = true) : ∀ i, i < n → ∀ j, j < n → PySem.W.kitOne K (.ref (C i)) (.ref (C j)) = some (decide (j = i)) := fun i hi j hj =>
  of_decide_eq_true (List.all_eq_true.mp (List.all_eq_true.mp h i (List.mem_range.mpr hi)) j (List.mem_range.mpr hj))
def kitToB (K : PySem.W.Frag) (C : Nat → Addr) (n : Nat) (c : Value) (b : Bool) : Bool := (List.range n).all fun i => decide (PySem.W.kitOne K (.ref (C i)) c = some b)
theorem kitToB_ok {K : PySem.W.Frag} {C : Nat → Addr} {n : Nat} {c : Value} {b : Bool} (h : kitToB K C n c b = true) : ∀ i, i < n → PySem.W.kitOne K (.ref (C i)) c = some b := fun i hi =>
  of_decide_eq_true (List.all_eq_true.mp h i (List.mem_range.mpr hi))
def kitFromB (K : PySem.W.Frag) (C : Nat → Addr) (n : Nat) (D : Addr) (b : Bool) : Bool := (List.range n).all fun i => decide (PySem.W.kitOne K (.ref D) (.ref (C i)) = some b)
theorem kitFromB_ok {K : PySem.W.Frag} {C : Nat → Addr} {n : Nat} {D : Addr} {b : Bool} (h : kitFromB K C n D b = true) : ∀ i, i < n → PySem.W.kitOne K (.ref D) (.ref (C i)) = some b := fun i hi =>
  of_decide_eq_true (List.all_eq_true.mp h i (List.mem_range.mpr hi))
def allExcB (K : PySem.W.Frag) (C : Nat → Addr) (n : Nat) : Bool := (List.range n).all fun i => excB K (C i)
theorem allExcB_ok {K : PySem.W.Frag} {C : Nat → Addr} {n : Nat} (h : allExcB K C n = true) : ∀ i, i < n → excB K (C i) = true := fun i hi => List.all_eq_true.mp h i (List.mem_range.mpr hi)
end Og

set_option Elab.async false
set_option linter.all false
set_option maxRecDepth 100000
set_option maxHeartbeats 16000000
namespace Og
open PySem L2
def cOf (cs : List Addr) (i : Nat) : Addr := cs.getD i 0
theorem all_mk {P : Program} {w : World} {K : PySem.W.Frag} {h : Heap} {mg : Str → Option Value} {fa G : Addr} (X : K.In h) (Gn : h.Ns mainGlobals mg) (hfa : mg "law" = some (.ref fa))
    {C0 C1 C2 C3 C4 C5 C6 C7 C8 C9 C10 C11 C12 C13 C14 C15 : Addr}
    (aG : PySem.W.nsIn K mainGlobals "GroundError" = some (some (.ref G)))
    (aC0 : PySem.W.nsIn K mainGlobals "BadBook" = some (some (.ref C0)))
    (aC1 : PySem.W.nsIn K mainGlobals "Misread" = some (some (.ref C1)))
    (aC2 : PySem.W.nsIn K mainGlobals "BadRatio" = some (some (.ref C2)))
    (aC3 : PySem.W.nsIn K mainGlobals "BadRow" = some (some (.ref C3)))
    (aC4 : PySem.W.nsIn K mainGlobals "BadLot" = some (some (.ref C4)))
    (aC5 : PySem.W.nsIn K mainGlobals "BadName" = some (some (.ref C5)))
    (aC6 : PySem.W.nsIn K mainGlobals "NoName" = some (some (.ref C6)))
    (aC7 : PySem.W.nsIn K mainGlobals "TakenName" = some (some (.ref C7)))
    (aC8 : PySem.W.nsIn K mainGlobals "BadNumber" = some (some (.ref C8)))
    (aC9 : PySem.W.nsIn K mainGlobals "BadValue" = some (some (.ref C9)))
    (aC10 : PySem.W.nsIn K mainGlobals "BadLine" = some (some (.ref C10)))
    (aC11 : PySem.W.nsIn K mainGlobals "Unlike" = some (some (.ref C11)))
    (aC12 : PySem.W.nsIn K mainGlobals "TooMany" = some (some (.ref C12)))
    (aC13 : PySem.W.nsIn K mainGlobals "NotKept" = some (some (.ref C13)))
    (aC14 : PySem.W.nsIn K mainGlobals "NothingToUndo" = some (some (.ref C14)))
    (aC15 : PySem.W.nsIn K mainGlobals "NothingToRedo" = some (some (.ref C15)))
    {nm0 q0 : Str} {N0 f0 : Addr} {bs0 bm0 : List Value} {sn0 : List Str} {sub0 : List Value} {ab0 : Bool} {col0 : Option Bool} {dd0 od0 an0 : Option Addr} {m00 m10 m20 m30 m50 : Option Value} {sl0 : Array (Option Value)} {oc0 kV0 dc0 pm0 cd0 ct0 : Value}
    (xL0 : K.lookup C0 = some (excClassObj nm0 q0 C0 N0 bs0 bm0 true sn0 sub0 ab0 col0 dd0 m00 m10 m20 m30 m50 "ValueError.__new__"))
    (rf0 : PySem.HandSPX.refsVE bm0 = true)
    (iC0 : PySem.W.findIn K (.ref C0) "__init__" = some (some (.ref f0)))
    (tI0 : PySem.W.typeIn K (.ref f0) = some (.type "function"))
    (l0 : K.lookup f0 = some ⟨oc0, od0, .func (PySem.W.fnOf "__init__" "BadBook.__init__" (defArgs sBadBook) (defBody sBadBook) (defScope sBadBook) .none kV0 dc0 pm0 an0 cd0 ct0), sl0⟩)
    (c0 : PySem.W.codeIn K cd0 "BadBook.__init__" = true)
    (k0 : PySem.W.keepIn K (.ref f0) = true)
    (mk0 : mkB K C0 = true)
    (no0 : noB K C0 ["what", "value"] = true)
    {nm1 q1 : Str} {N1 f1 : Addr} {bs1 bm1 : List Value} {sn1 : List Str} {sub1 : List Value} {ab1 : Bool} {col1 : Option Bool} {dd1 od1 an1 : Option Addr} {m01 m11 m21 m31 m51 : Option Value} {sl1 : Array (Option Value)} {oc1 kV1 dc1 pm1 cd1 ct1 : Value}
    (xL1 : K.lookup C1 = some (excClassObj nm1 q1 C1 N1 bs1 bm1 true sn1 sub1 ab1 col1 dd1 m01 m11 m21 m31 m51 "ValueError.__new__"))
    (rf1 : PySem.HandSPX.refsVE bm1 = true)
    (iC1 : PySem.W.findIn K (.ref C1) "__init__" = some (some (.ref f1)))
    (tI1 : PySem.W.typeIn K (.ref f1) = some (.type "function"))
    (l1 : K.lookup f1 = some ⟨oc1, od1, .func (PySem.W.fnOf "__init__" "Misread.__init__" (defArgs sMisread) (defBody sMisread) (defScope sMisread) .none kV1 dc1 pm1 an1 cd1 ct1), sl1⟩)
    (c1 : PySem.W.codeIn K cd1 "Misread.__init__" = true)
    (k1 : PySem.W.keepIn K (.ref f1) = true)
    (mk1 : mkB K C1 = true)
    (no1 : noB K C1 ["what", "line", "column"] = true)
    {nm2 q2 : Str} {N2 f2 : Addr} {bs2 bm2 : List Value} {sn2 : List Str} {sub2 : List Value} {ab2 : Bool} {col2 : Option Bool} {dd2 od2 an2 : Option Addr} {m02 m12 m22 m32 m52 : Option Value} {sl2 : Array (Option Value)} {oc2 kV2 dc2 pm2 cd2 ct2 : Value}
    (xL2 : K.lookup C2 = some (excClassObj nm2 q2 C2 N2 bs2 bm2 true sn2 sub2 ab2 col2 dd2 m02 m12 m22 m32 m52 "ValueError.__new__"))
    (rf2 : PySem.HandSPX.refsVE bm2 = true)
    (iC2 : PySem.W.findIn K (.ref C2) "__init__" = some (some (.ref f2)))
    (tI2 : PySem.W.typeIn K (.ref f2) = some (.type "function"))
    (l2 : K.lookup f2 = some ⟨oc2, od2, .func (PySem.W.fnOf "__init__" "BadRatio.__init__" (defArgs sBadRatio) (defBody sBadRatio) (defScope sBadRatio) .none kV2 dc2 pm2 an2 cd2 ct2), sl2⟩)
    (c2 : PySem.W.codeIn K cd2 "BadRatio.__init__" = true)
    (k2 : PySem.W.keepIn K (.ref f2) = true)
    (mk2 : mkB K C2 = true)
    (no2 : noB K C2 ["value"] = true)
    {nm3 q3 : Str} {N3 f3 : Addr} {bs3 bm3 : List Value} {sn3 : List Str} {sub3 : List Value} {ab3 : Bool} {col3 : Option Bool} {dd3 od3 an3 : Option Addr} {m03 m13 m23 m33 m53 : Option Value} {sl3 : Array (Option Value)} {oc3 kV3 dc3 pm3 cd3 ct3 : Value}
    (xL3 : K.lookup C3 = some (excClassObj nm3 q3 C3 N3 bs3 bm3 true sn3 sub3 ab3 col3 dd3 m03 m13 m23 m33 m53 "ValueError.__new__"))
    (rf3 : PySem.HandSPX.refsVE bm3 = true)
    (iC3 : PySem.W.findIn K (.ref C3) "__init__" = some (some (.ref f3)))
    (tI3 : PySem.W.typeIn K (.ref f3) = some (.type "function"))
    (l3 : K.lookup f3 = some ⟨oc3, od3, .func (PySem.W.fnOf "__init__" "BadRow.__init__" (defArgs sBadRow) (defBody sBadRow) (defScope sBadRow) .none kV3 dc3 pm3 an3 cd3 ct3), sl3⟩)
    (c3 : PySem.W.codeIn K cd3 "BadRow.__init__" = true)
    (k3 : PySem.W.keepIn K (.ref f3) = true)
    (mk3 : mkB K C3 = true)
    (no3 : noB K C3 ["what", "row"] = true)
    {nm4 q4 : Str} {N4 f4 : Addr} {bs4 bm4 : List Value} {sn4 : List Str} {sub4 : List Value} {ab4 : Bool} {col4 : Option Bool} {dd4 od4 an4 : Option Addr} {m04 m14 m24 m34 m54 : Option Value} {sl4 : Array (Option Value)} {oc4 kV4 dc4 pm4 cd4 ct4 : Value}
    (xL4 : K.lookup C4 = some (excClassObj nm4 q4 C4 N4 bs4 bm4 true sn4 sub4 ab4 col4 dd4 m04 m14 m24 m34 m54 "ValueError.__new__"))
    (rf4 : PySem.HandSPX.refsVE bm4 = true)
    (iC4 : PySem.W.findIn K (.ref C4) "__init__" = some (some (.ref f4)))
    (tI4 : PySem.W.typeIn K (.ref f4) = some (.type "function"))
    (l4 : K.lookup f4 = some ⟨oc4, od4, .func (PySem.W.fnOf "__init__" "BadLot.__init__" (defArgs sBadLot) (defBody sBadLot) (defScope sBadLot) .none kV4 dc4 pm4 an4 cd4 ct4), sl4⟩)
    (c4 : PySem.W.codeIn K cd4 "BadLot.__init__" = true)
    (k4 : PySem.W.keepIn K (.ref f4) = true)
    (mk4 : mkB K C4 = true)
    (no4 : noB K C4 ["what", "lot"] = true)
    {nm5 q5 : Str} {N5 f5 : Addr} {bs5 bm5 : List Value} {sn5 : List Str} {sub5 : List Value} {ab5 : Bool} {col5 : Option Bool} {dd5 od5 an5 : Option Addr} {m05 m15 m25 m35 m55 : Option Value} {sl5 : Array (Option Value)} {oc5 kV5 dc5 pm5 cd5 ct5 : Value}
    (xL5 : K.lookup C5 = some (excClassObj nm5 q5 C5 N5 bs5 bm5 true sn5 sub5 ab5 col5 dd5 m05 m15 m25 m35 m55 "ValueError.__new__"))
    (rf5 : PySem.HandSPX.refsVE bm5 = true)
    (iC5 : PySem.W.findIn K (.ref C5) "__init__" = some (some (.ref f5)))
    (tI5 : PySem.W.typeIn K (.ref f5) = some (.type "function"))
    (l5 : K.lookup f5 = some ⟨oc5, od5, .func (PySem.W.fnOf "__init__" "BadName.__init__" (defArgs sBadName) (defBody sBadName) (defScope sBadName) .none kV5 dc5 pm5 an5 cd5 ct5), sl5⟩)
    (c5 : PySem.W.codeIn K cd5 "BadName.__init__" = true)
    (k5 : PySem.W.keepIn K (.ref f5) = true)
    (mk5 : mkB K C5 = true)
    (no5 : noB K C5 ["name"] = true)
    {nm6 q6 : Str} {N6 f6 : Addr} {bs6 bm6 : List Value} {sn6 : List Str} {sub6 : List Value} {ab6 : Bool} {col6 : Option Bool} {dd6 od6 an6 : Option Addr} {m06 m16 m26 m36 m56 : Option Value} {sl6 : Array (Option Value)} {oc6 kV6 dc6 pm6 cd6 ct6 : Value}
    (xL6 : K.lookup C6 = some (excClassObj nm6 q6 C6 N6 bs6 bm6 true sn6 sub6 ab6 col6 dd6 m06 m16 m26 m36 m56 "ValueError.__new__"))
    (rf6 : PySem.HandSPX.refsVE bm6 = true)
    (iC6 : PySem.W.findIn K (.ref C6) "__init__" = some (some (.ref f6)))
    (tI6 : PySem.W.typeIn K (.ref f6) = some (.type "function"))
    (l6 : K.lookup f6 = some ⟨oc6, od6, .func (PySem.W.fnOf "__init__" "NoName.__init__" (defArgs sNoName) (defBody sNoName) (defScope sNoName) .none kV6 dc6 pm6 an6 cd6 ct6), sl6⟩)
    (c6 : PySem.W.codeIn K cd6 "NoName.__init__" = true)
    (k6 : PySem.W.keepIn K (.ref f6) = true)
    (mk6 : mkB K C6 = true)
    (no6 : noB K C6 ["name"] = true)
    {nm7 q7 : Str} {N7 f7 : Addr} {bs7 bm7 : List Value} {sn7 : List Str} {sub7 : List Value} {ab7 : Bool} {col7 : Option Bool} {dd7 od7 an7 : Option Addr} {m07 m17 m27 m37 m57 : Option Value} {sl7 : Array (Option Value)} {oc7 kV7 dc7 pm7 cd7 ct7 : Value}
    (xL7 : K.lookup C7 = some (excClassObj nm7 q7 C7 N7 bs7 bm7 true sn7 sub7 ab7 col7 dd7 m07 m17 m27 m37 m57 "ValueError.__new__"))
    (rf7 : PySem.HandSPX.refsVE bm7 = true)
    (iC7 : PySem.W.findIn K (.ref C7) "__init__" = some (some (.ref f7)))
    (tI7 : PySem.W.typeIn K (.ref f7) = some (.type "function"))
    (l7 : K.lookup f7 = some ⟨oc7, od7, .func (PySem.W.fnOf "__init__" "TakenName.__init__" (defArgs sTakenName) (defBody sTakenName) (defScope sTakenName) .none kV7 dc7 pm7 an7 cd7 ct7), sl7⟩)
    (c7 : PySem.W.codeIn K cd7 "TakenName.__init__" = true)
    (k7 : PySem.W.keepIn K (.ref f7) = true)
    (mk7 : mkB K C7 = true)
    (no7 : noB K C7 ["name"] = true)
    {nm8 q8 : Str} {N8 f8 : Addr} {bs8 bm8 : List Value} {sn8 : List Str} {sub8 : List Value} {ab8 : Bool} {col8 : Option Bool} {dd8 od8 an8 : Option Addr} {m08 m18 m28 m38 m58 : Option Value} {sl8 : Array (Option Value)} {oc8 kV8 dc8 pm8 cd8 ct8 : Value}
    (xL8 : K.lookup C8 = some (excClassObj nm8 q8 C8 N8 bs8 bm8 true sn8 sub8 ab8 col8 dd8 m08 m18 m28 m38 m58 "ValueError.__new__"))
    (rf8 : PySem.HandSPX.refsVE bm8 = true)
    (iC8 : PySem.W.findIn K (.ref C8) "__init__" = some (some (.ref f8)))
    (tI8 : PySem.W.typeIn K (.ref f8) = some (.type "function"))
    (l8 : K.lookup f8 = some ⟨oc8, od8, .func (PySem.W.fnOf "__init__" "BadNumber.__init__" (defArgs sBadNumber) (defBody sBadNumber) (defScope sBadNumber) .none kV8 dc8 pm8 an8 cd8 ct8), sl8⟩)
    (c8 : PySem.W.codeIn K cd8 "BadNumber.__init__" = true)
    (k8 : PySem.W.keepIn K (.ref f8) = true)
    (mk8 : mkB K C8 = true)
    (no8 : noB K C8 ["what", "number"] = true)
    {nm9 q9 : Str} {N9 f9 : Addr} {bs9 bm9 : List Value} {sn9 : List Str} {sub9 : List Value} {ab9 : Bool} {col9 : Option Bool} {dd9 od9 an9 : Option Addr} {m09 m19 m29 m39 m59 : Option Value} {sl9 : Array (Option Value)} {oc9 kV9 dc9 pm9 cd9 ct9 : Value}
    (xL9 : K.lookup C9 = some (excClassObj nm9 q9 C9 N9 bs9 bm9 true sn9 sub9 ab9 col9 dd9 m09 m19 m29 m39 m59 "ValueError.__new__"))
    (rf9 : PySem.HandSPX.refsVE bm9 = true)
    (iC9 : PySem.W.findIn K (.ref C9) "__init__" = some (some (.ref f9)))
    (tI9 : PySem.W.typeIn K (.ref f9) = some (.type "function"))
    (l9 : K.lookup f9 = some ⟨oc9, od9, .func (PySem.W.fnOf "__init__" "BadValue.__init__" (defArgs sBadValue) (defBody sBadValue) (defScope sBadValue) .none kV9 dc9 pm9 an9 cd9 ct9), sl9⟩)
    (c9 : PySem.W.codeIn K cd9 "BadValue.__init__" = true)
    (k9 : PySem.W.keepIn K (.ref f9) = true)
    (mk9 : mkB K C9 = true)
    (no9 : noB K C9 ["what", "value"] = true)
    {nm10 q10 : Str} {N10 f10 : Addr} {bs10 bm10 : List Value} {sn10 : List Str} {sub10 : List Value} {ab10 : Bool} {col10 : Option Bool} {dd10 od10 an10 : Option Addr} {m010 m110 m210 m310 m510 : Option Value} {sl10 : Array (Option Value)} {oc10 kV10 dc10 pm10 cd10 ct10 : Value}
    (xL10 : K.lookup C10 = some (excClassObj nm10 q10 C10 N10 bs10 bm10 true sn10 sub10 ab10 col10 dd10 m010 m110 m210 m310 m510 "ValueError.__new__"))
    (rf10 : PySem.HandSPX.refsVE bm10 = true)
    (iC10 : PySem.W.findIn K (.ref C10) "__init__" = some (some (.ref f10)))
    (tI10 : PySem.W.typeIn K (.ref f10) = some (.type "function"))
    (l10 : K.lookup f10 = some ⟨oc10, od10, .func (PySem.W.fnOf "__init__" "BadLine.__init__" (defArgs sBadLine) (defBody sBadLine) (defScope sBadLine) .none kV10 dc10 pm10 an10 cd10 ct10), sl10⟩)
    (c10 : PySem.W.codeIn K cd10 "BadLine.__init__" = true)
    (k10 : PySem.W.keepIn K (.ref f10) = true)
    (mk10 : mkB K C10 = true)
    (no10 : noB K C10 ["line", "word"] = true)
    {nm11 q11 : Str} {N11 f11 : Addr} {bs11 bm11 : List Value} {sn11 : List Str} {sub11 : List Value} {ab11 : Bool} {col11 : Option Bool} {dd11 od11 an11 : Option Addr} {m011 m111 m211 m311 m511 : Option Value} {sl11 : Array (Option Value)} {oc11 kV11 dc11 pm11 cd11 ct11 : Value}
    (xL11 : K.lookup C11 = some (excClassObj nm11 q11 C11 N11 bs11 bm11 true sn11 sub11 ab11 col11 dd11 m011 m111 m211 m311 m511 "ValueError.__new__"))
    (rf11 : PySem.HandSPX.refsVE bm11 = true)
    (iC11 : PySem.W.findIn K (.ref C11) "__init__" = some (some (.ref f11)))
    (tI11 : PySem.W.typeIn K (.ref f11) = some (.type "function"))
    (l11 : K.lookup f11 = some ⟨oc11, od11, .func (PySem.W.fnOf "__init__" "Unlike.__init__" (defArgs sUnlike) (defBody sUnlike) (defScope sUnlike) .none kV11 dc11 pm11 an11 cd11 ct11), sl11⟩)
    (c11 : PySem.W.codeIn K cd11 "Unlike.__init__" = true)
    (k11 : PySem.W.keepIn K (.ref f11) = true)
    (mk11 : mkB K C11 = true)
    (no11 : noB K C11 ["what"] = true)
    {nm12 q12 : Str} {N12 f12 : Addr} {bs12 bm12 : List Value} {sn12 : List Str} {sub12 : List Value} {ab12 : Bool} {col12 : Option Bool} {dd12 od12 an12 : Option Addr} {m012 m112 m212 m312 m512 : Option Value} {sl12 : Array (Option Value)} {oc12 kV12 dc12 pm12 cd12 ct12 : Value}
    (xL12 : K.lookup C12 = some (excClassObj nm12 q12 C12 N12 bs12 bm12 true sn12 sub12 ab12 col12 dd12 m012 m112 m212 m312 m512 "ValueError.__new__"))
    (rf12 : PySem.HandSPX.refsVE bm12 = true)
    (iC12 : PySem.W.findIn K (.ref C12) "__init__" = some (some (.ref f12)))
    (tI12 : PySem.W.typeIn K (.ref f12) = some (.type "function"))
    (l12 : K.lookup f12 = some ⟨oc12, od12, .func (PySem.W.fnOf "__init__" "TooMany.__init__" (defArgs sTooMany) (defBody sTooMany) (defScope sTooMany) .none kV12 dc12 pm12 an12 cd12 ct12), sl12⟩)
    (c12 : PySem.W.codeIn K cd12 "TooMany.__init__" = true)
    (k12 : PySem.W.keepIn K (.ref f12) = true)
    (mk12 : mkB K C12 = true)
    (no12 : noB K C12 ["what", "many", "limit"] = true)
    {nm13 q13 : Str} {N13 f13 : Addr} {bs13 bm13 : List Value} {sn13 : List Str} {sub13 : List Value} {ab13 : Bool} {col13 : Option Bool} {dd13 od13 an13 : Option Addr} {m013 m113 m213 m313 m513 : Option Value} {sl13 : Array (Option Value)} {oc13 kV13 dc13 pm13 cd13 ct13 : Value}
    (xL13 : K.lookup C13 = some (excClassObj nm13 q13 C13 N13 bs13 bm13 true sn13 sub13 ab13 col13 dd13 m013 m113 m213 m313 m513 "ValueError.__new__"))
    (rf13 : PySem.HandSPX.refsVE bm13 = true)
    (iC13 : PySem.W.findIn K (.ref C13) "__init__" = some (some (.ref f13)))
    (tI13 : PySem.W.typeIn K (.ref f13) = some (.type "function"))
    (l13 : K.lookup f13 = some ⟨oc13, od13, .func (PySem.W.fnOf "__init__" "NotKept.__init__" (defArgs sNotKept) (defBody sNotKept) (defScope sNotKept) .none kV13 dc13 pm13 an13 cd13 ct13), sl13⟩)
    (c13 : PySem.W.codeIn K cd13 "NotKept.__init__" = true)
    (k13 : PySem.W.keepIn K (.ref f13) = true)
    (mk13 : mkB K C13 = true)
    (no13 : noB K C13 ["promise", "witness"] = true)
    {fP : Addr} {odP anP : Option Addr} {slP : Array (Option Value)} {ocP kVP dcP pmP cdP ctP : Value}
    (aP : PySem.W.nsIn K mainGlobals "_law_pen" = some (some (.ref fP)))
    (lP : K.lookup fP = some ⟨ocP, odP, .func (PySem.W.fnOf "_law_pen" "_law_pen" (defArgs sPen) (defBody sPen) (defScope sPen) .none kVP dcP pmP anP cdP ctP), slP⟩)
    (cP : PySem.W.codeIn K cdP "_law_pen" = true)
    (kP : PySem.W.keepIn K (.ref fP) = true)
    {fD : Addr} {odD anD : Option Addr} {slD : Array (Option Value)} {ocD kVD dcD pmD cdD ctD : Value}
    (aD : PySem.W.nsIn K mainGlobals "_law_draw" = some (some (.ref fD)))
    (lD : K.lookup fD = some ⟨ocD, odD, .func (PySem.W.fnOf "_law_draw" "_law_draw" (defArgs sDraw) (defBody sDraw) (defScope sDraw) .none kVD dcD pmD anD cdD ctD), slD⟩)
    (cD : PySem.W.codeIn K cdD "_law_draw" = true)
    (kD : PySem.W.keepIn K (.ref fD) = true)
    {fK : Addr} {odK anK : Option Addr} {slK : Array (Option Value)} {ocK kVK dcK pmK cdK ctK : Value}
    (aK : PySem.W.nsIn K mainGlobals "_law_pick" = some (some (.ref fK)))
    (lK : K.lookup fK = some ⟨ocK, odK, .func (PySem.W.fnOf "_law_pick" "_law_pick" (defArgs sPick) (defBody sPick) (defScope sPick) .none kVK dcK pmK anK cdK ctK), slK⟩)
    (cK : PySem.W.codeIn K cdK "_law_pick" = true)
    (kK : PySem.W.keepIn K (.ref fK) = true)
    {fV : Addr} {odV anV : Option Addr} {slV : Array (Option Value)} {ocV kVV dcV pmV cdV ctV : Value}
    (aV : PySem.W.nsIn K mainGlobals "_law_value_of" = some (some (.ref fV)))
    (lV : K.lookup fV = some ⟨ocV, odV, .func (PySem.W.fnOf "_law_value_of" "_law_value_of" (defArgs sVal) (defBody sVal) (defScope sVal) .none kVV dcV pmV anV cdV ctV), slV⟩)
    (cV : PySem.W.codeIn K cdV "_law_value_of" = true)
    (kV : PySem.W.keepIn K (.ref fV) = true)
    {fO : Addr} {odO anO : Option Addr} {slO : Array (Option Value)} {ocO kVO dcO pmO cdO ctO : Value}
    (aO : PySem.W.nsIn K mainGlobals "_law_own" = some (some (.ref fO)))
    (lO : K.lookup fO = some ⟨ocO, odO, .func (PySem.W.fnOf "_law_own" "_law_own" (defArgs sOwn) (defBody sOwn) (defScope sOwn) .none kVO dcO pmO anO cdO ctO), slO⟩)
    (cO : PySem.W.codeIn K cdO "_law_own" = true)
    (kO : PySem.W.keepIn K (.ref fO) = true)
    {fC : Addr} {odC anC : Option Addr} {slC : Array (Option Value)} {ocC kVC dcC pmC cdC ctC : Value}
    (aC : PySem.W.nsIn K mainGlobals "_law_caught" = some (some (.ref fC)))
    (lC : K.lookup fC = some ⟨ocC, odC, .func (PySem.W.fnOf "_law_caught" "_law_caught" (defArgs sCaught) (defBody sCaught) (defScope sCaught) .none kVC dcC pmC anC cdC ctC), slC⟩)
    (cC : PySem.W.codeIn K cdC "_law_caught" = true)
    (kC : PySem.W.keepIn K (.ref fC) = true)
    {fT : Addr} {odT anT : Option Addr} {slT : Array (Option Value)} {ocT kVT dcT pmT cdT ctT : Value}
    (aT : PySem.W.nsIn K mainGlobals "_law_of_two" = some (some (.ref fT)))
    (lT : K.lookup fT = some ⟨ocT, odT, .func (PySem.W.fnOf "_law_of_two" "_law_of_two" (defArgs sTwo) (defBody sTwo) (defScope sTwo) .none kVT dcT pmT anT cdT ctT), slT⟩)
    (cT : PySem.W.codeIn K cdT "_law_of_two" = true)
    (kT : PySem.W.keepIn K (.ref fT) = true)
    {fL : Addr} {odL anL : Option Addr} {slL : Array (Option Value)} {ocL kVL dcL pmL cdL ctL : Value}
    (aL : PySem.W.nsIn K mainGlobals "law" = some (some (.ref fL)))
    (lL : K.lookup fL = some ⟨ocL, odL, .func (PySem.W.fnOf "law" "law" (defArgs sLaw) (defBody sLaw) (defScope sLaw) .none kVL dcL pmL anL cdL ctL), slL⟩)
    (cL : PySem.W.codeIn K cdL "law" = true)
    (kL : PySem.W.keepIn K (.ref fL) = true)
    (eB : allExcB K (cOf [C0, C1, C2, C3, C4, C5, C6, C7, C8, C9, C10, C11, C12, C13, C14, C15]) 16 = true)
    (eG : excB K G = true)
    (kB : kitB K (cOf [C0, C1, C2, C3, C4, C5, C6, C7, C8, C9, C10, C11, C12, C13, C14, C15]) 16 = true)
    (kG_ : kitToB K (cOf [C0, C1, C2, C3, C4, C5, C6, C7, C8, C9, C10, C11, C12, C13, C14, C15]) 16 (.ref G) true = true)
    (kV_ : kitToB K (cOf [C0, C1, C2, C3, C4, C5, C6, C7, C8, C9, C10, C11, C12, C13, C14, C15]) 16 (.type "ValueError") true = true)
    (kF_ : kitFromB K (cOf [C0, C1, C2, C3, C4, C5, C6, C7, C8, C9, C10, C11, C12, C13, C14, C15]) 16 G false = true)
    (kK_ : PySem.W.kitOne K (.ref G) (.type "KeyError") = some false)
    (fr : freeB K ["int", "list", "len", "str", "isinstance", "enumerate", "range", "ValueError", "KeyError", "all", "repr"] = true)
    (xG : PySem.W.excIn K G [.type "ValueError", .type "Exception", .type "BaseException", .type "object"] "ValueError.__new__" = true)
    (x14 : PySem.W.excIn K C14 [.type "ValueError", .type "Exception", .type "BaseException", .type "object"] "ValueError.__new__" = true)
    (x15 : PySem.W.excIn K C15 [.type "ValueError", .type "Exception", .type "BaseException", .type "object"] "ValueError.__new__" = true)
    (kpG : PySem.W.keepIn K (.ref G) = true)
    (kp14 : PySem.W.keepIn K (.ref C14) = true)
    (kp15 : PySem.W.keepIn K (.ref C15) = true)
    (exG : PySem.W.exmOne K (.ref C12) (.ref G) = some true)
    (exT : PySem.W.exmOne K (.ref C12) (.ref C12) = some true)
    : ∃ fd : FuncData, (∀ (s : Shared) (v : Value), BindsTo s fd ⟨[v], []⟩ [("script", v)]) ∧ ∀ base : Heap, K.In base → base.Ns mainGlobals mg → FnOkG P w K mg base CX0 5 fa fd ["script"] (spLaw K) := by
  have e := hfa.symm.trans (PySem.W.mg_of X Gn aL)
  cases e
  have fr' := freeB_ok X Gn fr
  have FP := fun_mk (st := sPen) lP cP kP
  have bP := FP.binds (ps := ["script"]) fun _ _ _ _ _ _ us hl => match us, hl with | [_], _ => rfl
  have FD := fun_mk (st := sDraw) lD cD kD
  have bD := FD.binds (ps := ["pen", "many"]) fun _ _ _ _ _ _ us hl => match us, hl with | [_, _], _ => rfl
  have FK := fun_mk (st := sPick) lK cK kK
  have bK := FK.binds (ps := ["pen", "some"]) fun _ _ _ _ _ _ us hl => match us, hl with | [_, _], _ => rfl
  have FV := fun_mk (st := sVal) lV cV kV
  have bV := FV.binds (ps := ["pen"]) fun _ _ _ _ _ _ us hl => match us, hl with | [_], _ => rfl
  have FO := fun_mk (st := sOwn) lO cO kO
  have bO := FO.binds (ps := ["error"]) fun _ _ _ _ _ _ us hl => match us, hl with | [_], _ => rfl
  have FC := fun_mk (st := sCaught) lC cC kC
  have bC := FC.binds (ps := ["value"]) fun _ _ _ _ _ _ us hl => match us, hl with | [_], _ => rfl
  have FT := fun_mk (st := sTwo) lT cT kT
  have bT := FT.binds (ps := ["a", "b"]) fun _ _ _ _ _ _ us hl => match us, hl with | [_, _], _ => rfl
  have FL := fun_mk (st := sLaw) lL cL kL
  have bL := FL.binds (ps := ["script"]) fun _ _ _ _ _ _ us hl => match us, hl with | [_], _ => rfl
  have pt : PenTxt mg := ⟨fr' _ (by simp), fr' _ (by simp), fr' _ (by simp)⟩
  have et : ErrTxt K mg (cOf [C0, C1, C2, C3, C4, C5, C6, C7, C8, C9, C10, C11, C12, C13, C14, C15]) := ⟨fr' _ (by simp), fr' _ (by simp), PySem.W.mg_of X Gn aC0, PySem.W.mg_of X Gn aC1, PySem.W.mg_of X Gn aC2, PySem.W.mg_of X Gn aC3, PySem.W.mg_of X Gn aC4, PySem.W.mg_of X Gn aC5, PySem.W.mg_of X Gn aC6, PySem.W.mg_of X Gn aC7, PySem.W.mg_of X Gn aC8, PySem.W.mg_of X Gn aC9, PySem.W.mg_of X Gn aC10, PySem.W.mg_of X Gn aC11, PySem.W.mg_of X Gn aC12, PySem.W.mg_of X Gn aC13, PySem.W.mg_of X Gn aC14, PySem.W.mg_of X Gn aC15⟩
  have ex := allExcB_ok eB
  have kt := kitB_ok kB
  have I0 : IniTxt K C0 ["what", "value"] := ini_of xL0 rf0 (ex 0 (by decide)) mk0 no0
  have I1 : IniTxt K C1 ["what", "line", "column"] := ini_of xL1 rf1 (ex 1 (by decide)) mk1 no1
  have I2 : IniTxt K C2 ["value"] := ini_of xL2 rf2 (ex 2 (by decide)) mk2 no2
  have I3 : IniTxt K C3 ["what", "row"] := ini_of xL3 rf3 (ex 3 (by decide)) mk3 no3
  have I4 : IniTxt K C4 ["what", "lot"] := ini_of xL4 rf4 (ex 4 (by decide)) mk4 no4
  have I5 : IniTxt K C5 ["name"] := ini_of xL5 rf5 (ex 5 (by decide)) mk5 no5
  have I6 : IniTxt K C6 ["name"] := ini_of xL6 rf6 (ex 6 (by decide)) mk6 no6
  have I7 : IniTxt K C7 ["name"] := ini_of xL7 rf7 (ex 7 (by decide)) mk7 no7
  have I8 : IniTxt K C8 ["what", "number"] := ini_of xL8 rf8 (ex 8 (by decide)) mk8 no8
  have I9 : IniTxt K C9 ["what", "value"] := ini_of xL9 rf9 (ex 9 (by decide)) mk9 no9
  have I10 : IniTxt K C10 ["line", "word"] := ini_of xL10 rf10 (ex 10 (by decide)) mk10 no10
  have I11 : IniTxt K C11 ["what"] := ini_of xL11 rf11 (ex 11 (by decide)) mk11 no11
  have I12 : IniTxt K C12 ["what", "many", "limit"] := ini_of xL12 rf12 (ex 12 (by decide)) mk12 no12
  have I13 : IniTxt K C13 ["promise", "witness"] := ini_of xL13 rf13 (ex 13 (by decide)) mk13 no13
  have gG := PySem.W.mg_of X Gn aG
  have ct : CaughtTxt K mg (cOf [C0, C1, C2, C3, C4, C5, C6, C7, C8, C9, C10, C11, C12, C13, C14, C15]) G := ⟨et, gG, excB_ok (ex 12 (by decide)), kt 12 (by decide) 12 (by decide), exG, exT⟩
  have lt : LawTxt K mg (cOf [C0, C1, C2, C3, C4, C5, C6, C7, C8, C9, C10, C11, C12, C13, C14, C15]) G fP fV fO fC fT := ⟨pt, et, fr' _ (by simp), fr' _ (by simp), fr' _ (by simp), gG, PySem.W.mg_of X Gn aP, kP, PySem.W.mg_of X Gn aV, kV, PySem.W.mg_of X Gn aO, kO, PySem.W.mg_of X Gn aC, kC, PySem.W.mg_of X Gn aT, kT, x14, x15, xG, kp14, kp15, kpG,
    fun i hi => ⟨excB_ok (ex i hi), kt i hi⟩, ⟨excB_ok eG, kitFromB_ok kF_⟩, kitToB_ok kG_, kitToB_ok kV_, kK_⟩
  have vt : ValTxt K mg fD fK := ⟨⟨pt, PySem.W.mg_of X Gn aD, kD⟩, PySem.W.mg_of X Gn aK, kK, fr' _ (by simp)⟩
  have tt : TwoTxt mg := ⟨fr' _ (by simp), fr' _ (by simp)⟩
  exact ⟨_, fun s v => .of_eq rfl, fun base _ _ => ok_law FL lt vt ct tt ⟨err_BadBook (fun_mk (st := sBadBook) l0 c0 k0) I0 iC0 tI0 (PySem.W.mg_of X Gn aC0), err_Misread (fun_mk (st := sMisread) l1 c1 k1) I1 iC1 tI1 (PySem.W.mg_of X Gn aC1), err_BadRatio (fun_mk (st := sBadRatio) l2 c2 k2) I2 iC2 tI2 (PySem.W.mg_of X Gn aC2), err_BadRow (fun_mk (st := sBadRow) l3 c3 k3) I3 iC3 tI3 (PySem.W.mg_of X Gn aC3), err_BadLot (fun_mk (st := sBadLot) l4 c4 k4) I4 iC4 tI4 (PySem.W.mg_of X Gn aC4), err_BadName (fun_mk (st := sBadName) l5 c5 k5) I5 iC5 tI5 (PySem.W.mg_of X Gn aC5), err_NoName (fun_mk (st := sNoName) l6 c6 k6) I6 iC6 tI6 (PySem.W.mg_of X Gn aC6), err_TakenName (fun_mk (st := sTakenName) l7 c7 k7) I7 iC7 tI7 (PySem.W.mg_of X Gn aC7), err_BadNumber (fun_mk (st := sBadNumber) l8 c8 k8) I8 iC8 tI8 (PySem.W.mg_of X Gn aC8), err_BadValue (fun_mk (st := sBadValue) l9 c9 k9) I9 iC9 tI9 (PySem.W.mg_of X Gn aC9), err_BadLine (fun_mk (st := sBadLine) l10 c10 k10) I10 iC10 tI10 (PySem.W.mg_of X Gn aC10), err_Unlike (fun_mk (st := sUnlike) l11 c11 k11) I11 iC11 tI11 (PySem.W.mg_of X Gn aC11), err_TooMany (fun_mk (st := sTooMany) l12 c12 k12) I12 iC12 tI12 (PySem.W.mg_of X Gn aC12), err_NotKept (fun_mk (st := sNotKept) l13 c13 k13) I13 iC13 tI13 (PySem.W.mg_of X Gn aC13)⟩ FP bP FD bD FK bK FV bV FO bO FC bC FT bT⟩
end Og

open PySem PySem.W PyProof.Rows
set_option Elab.async false
set_option maxRecDepth 100000 in
set_option maxHeartbeats 0 in
theorem PySem.Challenge.cw_owngrounds_k00_errors_made_by_hand_holds : PySem.Challenge.rw_owngrounds_k00_errors_made_by_hand.Holds := by
  w_on; o_law; k_head; (case hw => w_witness2)
  k_fill
  refine Og.walk_ofG (n := 63) (k := 5) (x := "script") (sp := Og.spLaw) rfl (by decide) rfl ⟨rfl, by decide, by decide⟩ (fun w h Y => PySem.W.kIn_of Y) ?F (fun K H a ns hl hS => ⟨a, ns, rfl, hS, hl, fun _ => rfl⟩)
  intro w mg fa h KX G hmg
  refine' Og.all_mk KX G hmg ?aG ?aC0 ?aC1 ?aC2 ?aC3 ?aC4 ?aC5 ?aC6 ?aC7 ?aC8 ?aC9 ?aC10 ?aC11 ?aC12 ?aC13 ?aC14 ?aC15 ?xL0 ?rf0 ?iC0 ?tI0 ?l0 ?c0 ?k0 ?mk0 ?no0 ?xL1 ?rf1 ?iC1 ?tI1 ?l1 ?c1 ?k1 ?mk1 ?no1 ?xL2 ?rf2 ?iC2 ?tI2 ?l2 ?c2 ?k2 ?mk2 ?no2 ?xL3 ?rf3 ?iC3 ?tI3 ?l3 ?c3 ?k3 ?mk3 ?no3 ?xL4 ?rf4 ?iC4 ?tI4 ?l4 ?c4 ?k4 ?mk4 ?no4 ?xL5 ?rf5 ?iC5 ?tI5 ?l5 ?c5 ?k5 ?mk5 ?no5 ?xL6 ?rf6 ?iC6 ?tI6 ?l6 ?c6 ?k6 ?mk6 ?no6 ?xL7 ?rf7 ?iC7 ?tI7 ?l7 ?c7 ?k7 ?mk7 ?no7 ?xL8 ?rf8 ?iC8 ?tI8 ?l8 ?c8 ?k8 ?mk8 ?no8 ?xL9 ?rf9 ?iC9 ?tI9 ?l9 ?c9 ?k9 ?mk9 ?no9 ?xL10 ?rf10 ?iC10 ?tI10 ?l10 ?c10 ?k10 ?mk10 ?no10 ?xL11 ?rf11 ?iC11 ?tI11 ?l11 ?c11 ?k11 ?mk11 ?no11 ?xL12 ?rf12 ?iC12 ?tI12 ?l12 ?c12 ?k12 ?mk12 ?no12 ?xL13 ?rf13 ?iC13 ?tI13 ?l13 ?c13 ?k13 ?mk13 ?no13 ?aP ?lP ?cP ?kP ?aD ?lD ?cD ?kD ?aK ?lK ?cK ?kK ?aV ?lV ?cV ?kV ?aO ?lO ?cO ?kO ?aC ?lC ?cC ?kC ?aT ?lT ?cT ?kT ?aL ?lL ?cL ?kL ?eB ?eG ?kB ?kG_ ?kV_ ?kF_ ?kK_ ?fr ?xG ?x14 ?x15 ?kpG ?kp14 ?kp15 ?exG ?exT
  (case aG => k_is)
  (case aC0 => k_is)
  (case aC1 => k_is)
  (case aC2 => k_is)
  (case aC3 => k_is)
  (case aC4 => k_is)
  (case aC5 => k_is)
  (case aC6 => k_is)
  (case aC7 => k_is)
  (case aC8 => k_is)
  (case aC9 => k_is)
  (case aC10 => k_is)
  (case aC11 => k_is)
  (case aC12 => k_is)
  (case aC13 => k_is)
  (case aC14 => k_is)
  (case aC15 => k_is)
  (case xL0 => k_is)
  (case rf0 => rfl)
  (case iC0 => k_is)
  (case tI0 => k_is)
  (case l0 => k_is)
  (case c0 => k_is)
  (case k0 => k_is)
  (case mk0 => kernel_rfl)
  (case no0 => kernel_rfl)
  (case xL1 => k_is)
  (case rf1 => rfl)
  (case iC1 => k_is)
  (case tI1 => k_is)
  (case l1 => k_is)
  (case c1 => k_is)
  (case k1 => k_is)
  (case mk1 => kernel_rfl)
  (case no1 => kernel_rfl)
  (case xL2 => k_is)
  (case rf2 => rfl)
  (case iC2 => k_is)
  (case tI2 => k_is)
  (case l2 => k_is)
  (case c2 => k_is)
  (case k2 => k_is)
  (case mk2 => kernel_rfl)
  (case no2 => kernel_rfl)
  (case xL3 => k_is)
  (case rf3 => rfl)
  (case iC3 => k_is)
  (case tI3 => k_is)
  (case l3 => k_is)
  (case c3 => k_is)
  (case k3 => k_is)
  (case mk3 => kernel_rfl)
  (case no3 => kernel_rfl)
  (case xL4 => k_is)
  (case rf4 => rfl)
  (case iC4 => k_is)
  (case tI4 => k_is)
  (case l4 => k_is)
  (case c4 => k_is)
  (case k4 => k_is)
  (case mk4 => kernel_rfl)
  (case no4 => kernel_rfl)
  (case xL5 => k_is)
  (case rf5 => rfl)
  (case iC5 => k_is)
  (case tI5 => k_is)
  (case l5 => k_is)
  (case c5 => k_is)
  (case k5 => k_is)
  (case mk5 => kernel_rfl)
  (case no5 => kernel_rfl)
  (case xL6 => k_is)
  (case rf6 => rfl)
  (case iC6 => k_is)
  (case tI6 => k_is)
  (case l6 => k_is)
  (case c6 => k_is)
  (case k6 => k_is)
  (case mk6 => kernel_rfl)
  (case no6 => kernel_rfl)
  (case xL7 => k_is)
  (case rf7 => rfl)
  (case iC7 => k_is)
  (case tI7 => k_is)
  (case l7 => k_is)
  (case c7 => k_is)
  (case k7 => k_is)
  (case mk7 => kernel_rfl)
  (case no7 => kernel_rfl)
  (case xL8 => k_is)
  (case rf8 => rfl)
  (case iC8 => k_is)
  (case tI8 => k_is)
  (case l8 => k_is)
  (case c8 => k_is)
  (case k8 => k_is)
  (case mk8 => kernel_rfl)
  (case no8 => kernel_rfl)
  (case xL9 => k_is)
  (case rf9 => rfl)
  (case iC9 => k_is)
  (case tI9 => k_is)
  (case l9 => k_is)
  (case c9 => k_is)
  (case k9 => k_is)
  (case mk9 => kernel_rfl)
  (case no9 => kernel_rfl)
  (case xL10 => k_is)
  (case rf10 => rfl)
  (case iC10 => k_is)
  (case tI10 => k_is)
  (case l10 => k_is)
  (case c10 => k_is)
  (case k10 => k_is)
  (case mk10 => kernel_rfl)
  (case no10 => kernel_rfl)
  (case xL11 => k_is)
  (case rf11 => rfl)
  (case iC11 => k_is)
  (case tI11 => k_is)
  (case l11 => k_is)
  (case c11 => k_is)
  (case k11 => k_is)
  (case mk11 => kernel_rfl)
  (case no11 => kernel_rfl)
  (case xL12 => k_is)
  (case rf12 => rfl)
  (case iC12 => k_is)
  (case tI12 => k_is)
  (case l12 => k_is)
  (case c12 => k_is)
  (case k12 => k_is)
  (case mk12 => kernel_rfl)
  (case no12 => kernel_rfl)
  (case xL13 => k_is)
  (case rf13 => rfl)
  (case iC13 => k_is)
  (case tI13 => k_is)
  (case l13 => k_is)
  (case c13 => k_is)
  (case k13 => k_is)
  (case mk13 => kernel_rfl)
  (case no13 => kernel_rfl)
  (case aP => k_is)
  (case lP => k_is)
  (case cP => k_is)
  (case kP => k_is)
  (case aD => k_is)
  (case lD => k_is)
  (case cD => k_is)
  (case kD => k_is)
  (case aK => k_is)
  (case lK => k_is)
  (case cK => k_is)
  (case kK => k_is)
  (case aV => k_is)
  (case lV => k_is)
  (case cV => k_is)
  (case kV => k_is)
  (case aO => k_is)
  (case lO => k_is)
  (case cO => k_is)
  (case kO => k_is)
  (case aC => k_is)
  (case lC => k_is)
  (case cC => k_is)
  (case kC => k_is)
  (case aT => k_is)
  (case lT => k_is)
  (case cT => k_is)
  (case kT => k_is)
  (case aL => k_is)
  (case lL => k_is)
  (case cL => k_is)
  (case kL => k_is)
  (case eB => kernel_rfl)
  (case eG => kernel_rfl)
  (case kB => kernel_rfl)
  (case kG_ => kernel_rfl)
  (case kV_ => kernel_rfl)
  (case kF_ => kernel_rfl)
  (case kK_ => kernel_rfl)
  (case fr => kernel_rfl)
  (case xG => kernel_rfl)
  (case x14 => kernel_rfl)
  (case x15 => kernel_rfl)
  (case kpG => kernel_rfl)
  (case kp14 => kernel_rfl)
  (case kp15 => kernel_rfl)
  (case exG => kernel_rfl)
  (case exT => kernel_rfl)
#print axioms PySem.Challenge.cw_owngrounds_k00_errors_made_by_hand_holds
