import PyProof.Rows.All
import Wide.All
import OpenK.AllK
import Wide.FinOn
import KE.KStateDown
import HandS.ForMost
import HandS.More
import HandS.WordsExc
import HandS.Defaults
import HandS.Conv
import HandS.TupAny
import HandS.Wide
import HandS.IsInst
import HandS.Zip
import HandS.Evl
import HandS.Steps
import PySem.Challenge.RW_chipsproved_k21_sums_and_scripts
import KE.KExcSuper
import HandS.Exc
import HandS.TryMany
import HandS.ExcField
import HandS.ExcIs
import HandS.CallSlots
import HandS.HeadWalk
import KE.GoesMore
import KE.GoesEnum
import HandS.Walk
import HandS.DictTup
import HandS.SortRule
import KE.KIsAll
import HandS.Ends
import HandS.HeadEnd
import HandS.FStrTup
import HandS.Head0
import HandS.Head1
import HandS.Head2
import HandS.HeadHook1
import HandS.HeadHook2
import HandS.HeadNt
import PyProof.StrOps2
import HandS.TupMul
set_option Elab.async false
set_option linter.all false
set_option maxRecDepth 100000
set_option maxHeartbeats 1000000
namespace G3
open PySem PySem.Spec PyProof.Rows L2

/-! ## a def where it stands, and what it promises -/
def DefAt (K : PySem.W.Frag) (mg : Str → Option Value) (x nm : Str) (st : Stmt) : Prop := ∃ f fd, Fun K nm nm st f fd ∧ mg x = some (.ref f)
def Has (P : Program) (w : World) (K : PySem.W.Frag) (mg : Str → Option Value) (base : Heap) (CX : CXT) (k : Nat) (x : Str) (ps : List Str) (sp : Sp) : Prop :=
  ∃ f fd, FnOk P w K mg base CX k f fd ps sp ∧ mg x = some (.ref f) ∧ PySem.W.keepIn K (.ref f) = true ∧ Binds K fd ps []
section
variable {P : Program} {w : World} {K : PySem.W.Frag} {mg : Str → Option Value} {base : Heap} {CX : CXT} {k : Nat} {x : Str} {ps : List Str} {sp : Sp}
theorem Has.imp {sp' : Sp} (h : Has P w K mg base CX k x ps sp) (hs : ∀ vs H Q E, sp' vs H Q E → sp vs H Q E) : Has P w K mg base CX k x ps sp' := by
  obtain ⟨f, fd, F, r⟩ := h
  exact ⟨f, fd, F.imp hs, r⟩
theorem Has.mono {j : Nat} (h : Has P w K mg base CX j x ps sp) (hj : j ≤ k) : Has P w K mg base CX k x ps sp := by
  obtain ⟨f, fd, F, r⟩ := h
  exact ⟨f, fd, F.mono hj, r⟩
theorem has_of {nm : Str} {st : Stmt} {N : List Str} (D : DefAt K mg x nm st) (S : FnScope N ps (defScope st)) 
    (hb : ∀ (kV doc pm : Value) (an : Option Addr) (cdv ct : Value) (us : List Value), us.length = ps.length → bindArgs (PySem.W.fnOf nm nm (defArgs st) (defBody st) (defScope st) .none kV doc pm an cdv ct) ⟨us, []⟩ = pure (ps.zip us))
    (len : ∀ vs H Q E, sp vs H Q E → vs.length = ps.length)
    (hbody : ∀ (f : Addr) (cdv : Value) (A : Around) (outer : List Env) (s : Shared) (H : Hp) (vs : List V) (Q : VK) (E : XK), Room k (A.deeper (envOfC nm (defScope st) s.heap.objs.size f cdv)) → sp vs H Q E →
      ∃ t, PSs (cxOf CX0 P w K mg base N nm (defScope st) f cdv A outer s H E).nox (defBody st) t ∧ t { nx := fun _ H' => Q .non H', rt := Q } (start N vs) H) : Has P w K mg base CX0 (k + 1) x ps sp := by
  obtain ⟨f, fd, F, m⟩ := D
  exact ⟨f, fd, F.ok S len (fun cdv A outer s H vs Q E hr hs => hbody f cdv A outer s H vs Q E hr hs), m, F.kp, F.binds hb⟩
end
theorem pe_h {X : Cx} {CX : CXT} {k j : Nat} {x : Str} {ps : List Str} {sp : Sp} {E : XK} {p pos : Pos} {e : Expr} {es : List Expr} {t : TA} (h : Has X.prog X.w X.K X.mg X.base CX k x ps sp) (hr : Room j X.A) (hx : Passes CX X E)
    (ha : PA X (e :: es) t) (hk : k ≤ j := by first | decide | omega) (hg : Gl X x := by rfl) (hdb : (x == ("__debug__" : Str)) = false := by decide) (he : starEach (e :: es) X.env = (false, eval e X.env) :: starEach es X.env := by rfl) (hpl : (backTo pos (starEach es X.env)).any (·.1) = false := by rfl) :
    PE X (.Call (.Name x p) (e :: es) [] pos) (tCall sp [] E t) := by
  obtain ⟨f, fd, F, m, kp, b⟩ := h
  exact pe_call F (hr.mono hk) hg m kp b .nil hx ha hdb he hpl
/-- a written global number -/
theorem pe_gint {X : Cx} {x : Str} {i : Int} {pos : Pos} (h : ∃ t, X.mg x = some (.int i t)) (hg : Gl X x := by rfl) (hd : (x == ("__debug__" : Str)) = false := by decide) : PE X (.Name x pos) (tC (.int i)) := by
  obtain ⟨t, h⟩ := h
  exact pe_glob hg h ⟨t, rfl⟩ hd

/-! ## tests -/
theorem ifD {p A B : Prop} [Decidable p] (h1 : p → A) (h2 : ¬ p → B) : if decide p = true then A else B := by
  by_cases h : p
  · rw [if_pos (decide_eq_true h)]; exact h1 h
  · rw [if_neg (by simp [h])]; exact h2 h
theorem ifN {p A B : Prop} [Decidable p] (h1 : ¬ p → A) (h2 : p → B) : if (!decide p) = true then A else B := by
  by_cases h : p
  · rw [if_neg (by simp [h])]; exact h2 h
  · rw [if_pos (by simp [h])]; exact h1 h
theorem ifB {b : Bool} {A B : Prop} (h1 : b = true → A) (h2 : b = false → B) : if b = true then A else B := by
  cases b
  · rw [if_neg (by decide)]; exact h2 rfl
  · rw [if_pos rfl]; exact h1 rfl
theorem bl_t {p : Prop} [Decidable p] {Q : VK} {H : Hp} (h : p) (q : Q (.bl true) H) : Q (.bl (decide p)) H := by rw [decide_eq_true h]; exact q

theorem atI_int {α : Type} {xs : List α} {i : Int} {v : α} (h0 : 0 ≤ i) (h : xs[i.toNat]? = some v) : atI xs i = some v := by
  obtain ⟨n, rfl⟩ : ∃ n : Nat, i = n := ⟨i.toNat, by omega⟩
  exact atI_nat (by simpa using h)
theorem getMap {α : Type} {xs : List α} {f : α → V} {i : Nat} (h : i < xs.length) : (xs.map f)[i]? = some (f xs[i]) := by
  rw [List.getElem?_map, List.getElem?_eq_getElem h]; rfl

theorem st_ite {c : TT} {t1 t2 : TS} {D : Ends} {σ : L2.St} {H : Hp} {b : Bool} (h : Ans c σ H b) (h1 : b = true → t1 D σ H) (h2 : b = false → t2 D σ H) : tIfS c t1 t2 D σ H := by
  cases b
  · exact st_no h (h2 rfl)
  · exact st_yes h (h1 rfl)
theorem yes_ {σ : L2.St} {H : Hp} {A B : Hp → Prop} (h : A H) : tYes σ H (fun b H3 => if b = true then A H3 else B H3) := iteT (A := A H) (B := B H) h

/-! ## heaps -/
theorem same_upd {H : Hp} {p : Addr} {o : HO} (h : H p = none) : Same H (upd H p o) := fun b x e => by
  rw [upd_ne (ne_of_none e h)]; exact e
theorem Same.seqT {K : PySem.W.Frag} {H H' : Hp} {a : Addr} {xs : List V} (e : Same H H') (h : SqT K H a xs) : SqT K H' a xs := by
  rcases h with (h | ⟨o, h⟩) | h
  · exact .inl (.inl (e _ _ h))
  · exact .inl (.inr ⟨o, e _ _ h⟩)
  · exact .inr h

/-! ## the pool of a law: a list that only _law_take reads and writes -/
def PoolO (a c : Addr) : HO := .ext fun h => ∃ (i d s : Int) (t1 t2 t3 : Tok) (n : Nat), 0 ≤ i ∧ 0 ≤ d ∧ 0 ≤ s ∧ s < 2147483647 ∧
  h.get? a = some ({ cls := .type "list", data := .seq #[.ref c, .int i t1, .int d t2, .int s t3] n } : Obj)
def poolL (c : Addr) (i d s : Int) : List V := [.ref c, .int i, .int d, .int s]
def PoolAt (H : Hp) (a : Addr) : Prop := ∃ (c : Addr) (ns : List Int), H a = some (PoolO a c) ∧ H c = some (.lst (ns.map V.int)) ∧ ∀ n ∈ ns, (0 : Int) ≤ n
theorem PoolAt.same {H H' : Hp} {a : Addr} (h : PoolAt H a) (e : Same H H') : PoolAt H' a := by
  obtain ⟨c, ns, h1, h2, h3⟩ := h
  exact ⟨c, ns, e _ _ h1, e _ _ h2, h3⟩
theorem ext_own {φ : Heap → Prop} {x : Addr} : HO.ext φ ≠ .own x := fun z => by cases z
theorem ext_tup {φ : Heap → Prop} {xs : List V} : HO.ext φ ≠ .tup xs := fun z => by cases z
theorem lst_own {ys : List V} {x : Addr} : HO.lst ys ≠ .own x := fun z => by cases z
theorem lst_tup {ys xs : List V} : HO.lst ys ≠ .tup xs := fun z => by cases z
/-- what is tracked at a is told otherwise: a list by its ext, or back -/
theorem hok_ghost {P : Program} {w : World} {H : Hp} {h : Heap} {a : Addr} {o o' : HO} (ok : HOk P w H h) (e : H a = some o) (n1 : ∀ x, o ≠ .own x) (n2 : ∀ xs, o ≠ .tup xs) (new : ObjOk P w (upd H a o') h a o') : HOk P w (upd H a o') h := fun b u q => by
  by_cases hb : b = a
  · subst hb; rw [upd_same] at q; cases q; exact new
  · rw [upd_ne hb] at q
    refine (ok b u q).stay (fun _ _ _ z => z) (fun c z => ?_) (fun c xs z => ?_)
    · rw [upd_ne]; exact z
      intro y; subst y; rw [e] at z; exact n1 _ (Option.some.inj z)
    · rw [upd_ne]; exact z
      intro y; subst y; rw [e] at z; exact n2 _ (Option.some.inj z)
theorem pool_open {P : Program} {w : World} {H : Hp} {h : Heap} {a c : Addr} (ok : HOk P w H h) (e : H a = some (PoolO a c)) :
    ∃ i d s : Int, 0 ≤ i ∧ 0 ≤ d ∧ 0 ≤ s ∧ s < 2147483647 ∧ HOk P w (upd H a (.lst (poolL c i d s))) h := by
  obtain ⟨⟨i, d, s, t1, t2, t3, n, h1, h2, h3, h4, ho⟩, _, _⟩ := ok a _ e
  refine ⟨i, d, s, h1, h2, h3, h4, hok_ghost ok e (fun x => ext_own) (fun xs => ext_tup) ⟨by show 4 ≤ sizeLine; decide, [.ref c, .int i t1, .int d t2, .int s t3], n, ?_, ho⟩⟩
  exact .cons rfl (.cons ⟨_, rfl⟩ (.cons ⟨_, rfl⟩ (.cons ⟨_, rfl⟩ .nil)))
theorem pool_close {P : Program} {w : World} {H : Hp} {h : Heap} {a c : Addr} {i d s : Int} (ok : HOk P w H h) (e : H a = some (.lst (poolL c i d s))) (h1 : 0 ≤ i) (h2 : 0 ≤ d) (h3 : 0 ≤ s) (h4 : s < 2147483647) :
    HOk P w (upd H a (PoolO a c)) h := by
  obtain ⟨_, its, n, r, ho⟩ := ok a _ e
  refine hok_ghost ok e (fun x => lst_own) (fun xs => lst_tup) ?_
  cases r with
  | cons r0 r => cases r with
    | cons r1 r => cases r with
      | cons r2 r => cases r with
        | cons r3 r => cases r with
          | nil =>
            obtain rfl := r0
            obtain ⟨t1, rfl⟩ := r1
            obtain ⟨t2, rfl⟩ := r2
            obtain ⟨t3, rfl⟩ := r3
            have ho' : h.get? a = some ({ cls := .type "list", data := .seq #[.ref c, .int i t1, .int d t2, .int s t3] n } : Obj) := ho
            exact ⟨⟨i, d, s, t1, t2, t3, n, h1, h2, h3, h4, ho'⟩, ⟨_, ho'⟩, fun g1 g2 ⟨i', d', s', t1', t2', t3', n', a1, a2, a3, a4, q⟩ k => ⟨i', d', s', t1', t2', t3', n', a1, a2, a3, a4, k _ q⟩⟩
/-- another word for the heap ahead of a call and behind it -/
def Gst (H H1 : Hp) : Prop := (∀ b, H b = none → H1 b = none) ∧ (∀ b xs, H b = some (.tup xs) → H1 b = some (.tup xs)) ∧ (∀ b o u, H b = some (.frz o u) → H1 b = some (.frz o u)) ∧ (∀ b ps, H b = some (.tbl ps) → H1 b = some (.tbl ps))
theorem Gst.upd {H : Hp} {a : Addr} {o o' : HO} (e : H a = some o) (n1 : ∀ xs, o ≠ .tup xs) (n2 : ∀ ob u, o ≠ .frz ob u) (n3 : ∀ ps, o ≠ .tbl ps) : Gst H (L2.upd H a o') := by
  refine ⟨fun b n => ?_, fun b xs q => ?_, fun b ob u q => ?_, fun b ps q => ?_⟩
  · rw [upd_ne]; exact n
    intro z; subst z; rw [e] at n; cases n
  · rw [upd_ne]; exact q
    intro z; subst z; rw [e] at q; exact n1 _ (Option.some.inj q)
  · rw [upd_ne]; exact q
    intro z; subst z; rw [e] at q; exact n2 _ _ (Option.some.inj q)
  · rw [upd_ne]; exact q
    intro z; subst z; rw [e] at q; exact n3 _ (Option.some.inj q)
theorem ghost_call {P : Program} {w : World} {K : PySem.W.Frag} {mg : Str → Option Value} {base : Heap} {k : Nat} {f : Addr} {fd : FuncData} {ps : List Str} {sp sp' : Sp} (F : FnOk P w K mg base CX0 k f fd ps sp) (hlen : ∀ vs H Q E, sp' vs H Q E → vs.length = ps.length)
    (h : ∀ vs H Q E hp, HOk P w H hp → sp' vs H Q E → ∃ H1 Q1 E1, Gst H H1 ∧ HOk P w H1 hp ∧ sp vs H1 Q1 E1 ∧ ∀ v H2 hp2, HOk P w H2 hp2 → Q1 v H2 → ∃ H3, Gst H2 H3 ∧ HOk P w H3 hp2 ∧ Q v H3) : FnOk P w K mg base CX0 k f fd ps sp' := by
  refine ⟨hlen, fun A outer s H args us vs Q E hr e0 hb hv hs => ?_⟩
  obtain ⟨H1, Q1, E1, g, ok1, hs1, back⟩ := h vs H Q E s.heap e0.hok hs
  have e1 : Env0 P w K mg base A outer s H1 := ⟨e0.frames, e0.mod, fun b o q => ⟨(e0.bs b o q).1, g.1 b (e0.bs b o q).2⟩, e0.bsz, e0.funs, fun b hb => g.1 b (e0.frf b hb), ok1, e0.bare⟩
  refine codeAny_mono (F.run A outer s H1 args us vs Q1 E1 hr e1 hb hv hs1) fun r s' hq => ?_
  cases r with
  | error e => exact hq
  | ok fl =>
    cases fl with
    | ret u =>
      obtain ⟨v, H2, os, bare, un, ok2, rv, q1⟩ := hq
      obtain ⟨H3, g3, ok3, q⟩ := back v H2 _ ok2 q1
      refine ⟨v, H3, os, bare, ?_, ok3, rv, q⟩
      exact ⟨fun b o z n => un.keep b o z (g.1 b n), fun b o z n => un.slot b o z (g.1 b n), fun b o z n hx => g3.1 b (un.free b o z (g.1 b n) hx), un.there, fun b xs z => g3.2.1 b xs (un.tups b xs (g.2.1 b xs z)), fun b o u z => g3.2.2.1 b o u (un.frzs b o u (g.2.2.1 b o u z)),
        fun b ps z => by
          obtain ⟨m, z2⟩ := un.tbls b ps (g.2.2.2 b ps z)
          exact ⟨m, g3.2.2.2 b _ z2⟩⟩
    | next => exact hq
    | brk => exact hq
    | cont => exact hq

/-! ## a def that is never called so -/
theorem has_false {P : Program} {w : World} {K : PySem.W.Frag} {mg : Str → Option Value} {base : Heap} {k : Nat} {x nm : Str} {st : Stmt} {ps : List Str} {sp : Sp} (D : DefAt K mg x nm st)
    (hb : ∀ (kV doc pm : Value) (an : Option Addr) (cdv ct : Value) (us : List Value), us.length = ps.length → bindArgs (PySem.W.fnOf nm nm (defArgs st) (defBody st) (defScope st) .none kV doc pm an cdv ct) ⟨us, []⟩ = pure (ps.zip us))
    (h : ∀ vs H Q E, ¬ sp vs H Q E) : Has P w K mg base CX0 k x ps sp := by
  obtain ⟨f, fd, F, m⟩ := D
  exact ⟨f, fd, ⟨fun vs H Q E q => (h _ _ _ _ q).elim, fun _ _ _ H _ _ vs Q E _ _ _ _ q => (h _ _ _ _ q).elim⟩, m, F.kp, F.binds hb⟩

/-! ## data: rows of numbers, and anything at any depth -/
def Row (K : PySem.W.Frag) (H : Hp) (v : V) (xs : List V) : Prop := ∃ a, v = .ref a ∧ (SqL K H a xs ∨ SqT K H a xs)
theorem Row.same {K : PySem.W.Frag} {H H' : Hp} {v : V} {xs : List V} (h : Row K H v xs) (e : Same H H') : Row K H' v xs := by
  obtain ⟨a, rfl, h⟩ := h
  exact ⟨a, rfl, h.elim (fun h => .inl (e.seq h)) (fun h => .inr (Same.seqT e h))⟩
def tyN : PyData → String
  | .none => "NoneType"
  | .bool _ => "bool"
  | .int _ => "int"
  | .str _ => "str"
  | .list _ => "list"
  | .tuple _ => "tuple"
  | .dict _ => "dict"
theorem ty_l {K : PySem.W.Frag} {H : Hp} {a : Addr} {xs : List V} (h : SqL K H a xs) : TyX K H (.ref a) (.type "list") := by
  rcases h with (h | ⟨o, h⟩) | ⟨o, its, n, hk, hc, _⟩
  · exact .base (.lst h)
  · exact .base (.frz h)
  · exact .kList hk hc
theorem ty_t {K : PySem.W.Frag} {H : Hp} {a : Addr} {xs : List V} (h : SqT K H a xs) : TyX K H (.ref a) (.type "tuple") := by
  rcases h with (h | ⟨o, h⟩) | ⟨o, its, n, hk, hc, _⟩
  · exact .base (.tup h)
  · exact .fTuple h
  · exact .kTuple hk hc
theorem Dp.ty {K : PySem.W.Frag} {H : Hp} {v : V} {d : PyData} (h : Dp K H v d) : TyX K H v (.type (tyN d)) := by
  cases h with
  | non => exact .base .non
  | bl b => exact .base (.bl b)
  | int i => exact .base (.int i)
  | str x => exact .base (.str x)
  | lst h _ => exact ty_l h
  | tup h _ => exact ty_t h
mutual
theorem Dp.same {K : PySem.W.Frag} {H H' : Hp} (e : Same H H') : ∀ {v : V} {d : PyData}, Dp K H v d → Dp K H' v d
  | _, _, .non => .non
  | _, _, .bl b => .bl b
  | _, _, .int i => .int i
  | _, _, .str x => .str x
  | _, _, .lst h t => .lst (e.seq h) (DpAll.same e t)
  | _, _, .tup h t => .tup (Same.seqT e h) (DpAll.same e t)
theorem DpAll.same {K : PySem.W.Frag} {H H' : Hp} (e : Same H H') : ∀ {vs : List V} {ds : List PyData}, DpAll K H vs ds → DpAll K H' vs ds
  | _, _, .nil => .nil
  | _, _, .cons h t => .cons (Dp.same e h) (DpAll.same e t)
end
theorem DpAll.len {K : PySem.W.Frag} {H : Hp} : ∀ {vs : List V} {ds : List PyData}, DpAll K H vs ds → vs.length = ds.length
  | _, _, .nil => rfl
  | _, _, .cons _ t => by rw [List.length_cons, List.length_cons, DpAll.len t]
theorem DpAll.get {K : PySem.W.Frag} {H : Hp} : ∀ {vs : List V} {ds : List PyData} {i : Nat}, DpAll K H vs ds → (h : i < ds.length) → ∃ v, vs[i]? = some v ∧ Dp K H v ds[i]
  | _, _, i, .nil, h => absurd h (by simp)
  | _, _, 0, .cons d _, _ => ⟨_, rfl, d⟩
  | _, _, i + 1, .cons _ t, h => by
    obtain ⟨v, e, d⟩ := DpAll.get (i := i) t (by simpa using h)
    exact ⟨v, by simpa using e, d⟩
theorem dpAll_ints {K : PySem.W.Frag} {H : Hp} : ∀ ns : List Int, DpAll K H (ns.map V.int) (ns.map PyData.int)
  | [] => .nil
  | n :: r => .cons (.int n) (dpAll_ints r)
theorem DpAll.app {K : PySem.W.Frag} {H : Hp} : ∀ {vs ws : List V} {ds es : List PyData}, DpAll K H vs ds → DpAll K H ws es → DpAll K H (vs ++ ws) (ds ++ es)
  | _, _, _, _, .nil, t => t
  | _, _, _, _, .cons h r, t => .cons h (DpAll.app r t)
theorem kt_int {K : PySem.W.Frag} (d : PyData) : PySem.W.kitOne K (.type (tyN d)) (.type "int") = some (match d with | .int _ => true | .bool _ => true | _ => false) := by
  cases d with
  | none => exact kit_ty (a := "NoneType") (b := "int") (r := false) (by decide +kernel)
  | bool => exact kit_ty (a := "bool") (b := "int") (r := true) (by decide +kernel)
  | int => exact kit_ty (a := "int") (b := "int") (r := true) (by decide +kernel)
  | str => exact kit_ty (a := "str") (b := "int") (r := false) (by decide +kernel)
  | list => exact kit_ty (a := "list") (b := "int") (r := false) (by decide +kernel)
  | tuple => exact kit_ty (a := "tuple") (b := "int") (r := false) (by decide +kernel)
  | dict => exact kit_ty (a := "dict") (b := "int") (r := false) (by decide +kernel)
theorem kt_bool {K : PySem.W.Frag} (d : PyData) : PySem.W.kitOne K (.type (tyN d)) (.type "bool") = some (match d with | .bool _ => true | _ => false) := by
  cases d with
  | none => exact kit_ty (a := "NoneType") (b := "bool") (r := false) (by decide +kernel)
  | bool => exact kit_ty (a := "bool") (b := "bool") (r := true) (by decide +kernel)
  | int => exact kit_ty (a := "int") (b := "bool") (r := false) (by decide +kernel)
  | str => exact kit_ty (a := "str") (b := "bool") (r := false) (by decide +kernel)
  | list => exact kit_ty (a := "list") (b := "bool") (r := false) (by decide +kernel)
  | tuple => exact kit_ty (a := "tuple") (b := "bool") (r := false) (by decide +kernel)
  | dict => exact kit_ty (a := "dict") (b := "bool") (r := false) (by decide +kernel)
theorem kt_str {K : PySem.W.Frag} (d : PyData) : PySem.W.kitOne K (.type (tyN d)) (.type "str") = some (match d with | .str _ => true | _ => false) := by
  cases d with
  | none => exact kit_ty (a := "NoneType") (b := "str") (r := false) (by decide +kernel)
  | bool => exact kit_ty (a := "bool") (b := "str") (r := false) (by decide +kernel)
  | int => exact kit_ty (a := "int") (b := "str") (r := false) (by decide +kernel)
  | str => exact kit_ty (a := "str") (b := "str") (r := true) (by decide +kernel)
  | list => exact kit_ty (a := "list") (b := "str") (r := false) (by decide +kernel)
  | tuple => exact kit_ty (a := "tuple") (b := "str") (r := false) (by decide +kernel)
  | dict => exact kit_ty (a := "dict") (b := "str") (r := false) (by decide +kernel)
theorem kt_tuple {K : PySem.W.Frag} (d : PyData) : PySem.W.kitOne K (.type (tyN d)) (.type "tuple") = some (match d with | .tuple _ => true | _ => false) := by
  cases d with
  | none => exact kit_ty (a := "NoneType") (b := "tuple") (r := false) (by decide +kernel)
  | bool => exact kit_ty (a := "bool") (b := "tuple") (r := false) (by decide +kernel)
  | int => exact kit_ty (a := "int") (b := "tuple") (r := false) (by decide +kernel)
  | str => exact kit_ty (a := "str") (b := "tuple") (r := false) (by decide +kernel)
  | list => exact kit_ty (a := "list") (b := "tuple") (r := false) (by decide +kernel)
  | tuple => exact kit_ty (a := "tuple") (b := "tuple") (r := true) (by decide +kernel)
  | dict => exact kit_ty (a := "dict") (b := "tuple") (r := false) (by decide +kernel)
theorem kt_list {K : PySem.W.Frag} (d : PyData) : PySem.W.kitOne K (.type (tyN d)) (.type "list") = some (match d with | .list _ => true | _ => false) := by
  cases d with
  | none => exact kit_ty (a := "NoneType") (b := "list") (r := false) (by decide +kernel)
  | bool => exact kit_ty (a := "bool") (b := "list") (r := false) (by decide +kernel)
  | int => exact kit_ty (a := "int") (b := "list") (r := false) (by decide +kernel)
  | str => exact kit_ty (a := "str") (b := "list") (r := false) (by decide +kernel)
  | list => exact kit_ty (a := "list") (b := "list") (r := true) (by decide +kernel)
  | tuple => exact kit_ty (a := "tuple") (b := "list") (r := false) (by decide +kernel)
  | dict => exact kit_ty (a := "dict") (b := "list") (r := false) (by decide +kernel)
theorem tyx_same {K : PySem.W.Frag} {H H' : Hp} {x : V} {t : String} (e : Same H H') (ty : TyX K H x (.type t)) : TyX K H' x (.type t) := by
  cases ty with
  | base h => cases h with
    | non => exact .base .non
    | bl b => exact .base (.bl b)
    | int b => exact .base (.int b)
    | str b => exact .base (.str b)
    | flt b => exact .base (.flt b)
    | lst h => exact .base (.lst (e _ _ h))
    | frz h => exact .base (.frz (e _ _ h))
    | tup h => exact .base (.tup (e _ _ h))
    | dK h => exact .base (.dK (e _ _ h))
    | dT h => exact .base (.dT (e _ _ h))
  | byt b => exact .byt b
  | set h => exact .set (e _ _ h)
  | kList h c => exact .kList h c
  | kTuple h c => exact .kTuple h c
  | kDict h c => exact .kDict h c
  | fTuple h => exact .fTuple (e _ _ h)
  | fDict h => exact .fDict (e _ _ h)
def isSeqD : PyData → Bool
  | .list _ => true
  | .tuple _ => true
  | _ => false
theorem kt_tl {K : PySem.W.Frag} (d : PyData) : PySem.W.kitAny K (.type (tyN d)) [.type "tuple", .type "list"] = some (isSeqD d) := by
  refine kitAny_cons (kt_tuple d) (fun h1 => kitAny_cons (kt_list d) (fun h2 => ?_) (fun h2 => ?_)) (fun h1 => ?_)
  · cases d <;> first | rfl | exact absurd (show true = false from h2) (by decide) | exact absurd (show false = true from h2) (by decide) | exact absurd (show true = false from h1) (by decide) | exact absurd (show false = true from h1) (by decide)
  · cases d <;> first | rfl | exact absurd (show true = false from h2) (by decide) | exact absurd (show false = true from h2) (by decide) | exact absurd (show true = false from h1) (by decide) | exact absurd (show false = true from h1) (by decide)
  · cases d <;> first | rfl | exact absurd (show false = true from h1) (by decide)
def isI : V → Bool
  | .int _ => true
  | _ => false

/-- data that nests fewer than n deep, in rows of no great length -/
def Fit : Nat → PyData → Prop
  | 0, _ => False
  | n + 1, .list ds => ds.length ≤ 100000 ∧ ∀ d ∈ ds, Fit n d
  | n + 1, .tuple ds => ds.length ≤ 100000 ∧ ∀ d ∈ ds, Fit n d
  | _ + 1, .dict _ => False
  | _ + 1, _ => True
theorem fit_ints {n : Nat} {ns : List Int} : ∀ d ∈ ns.map PyData.int, Fit (n + 1) d := fun d h => by
  obtain ⟨z, _, rfl⟩ := List.mem_map.mp h
  exact True.intro
theorem size_le {n : Nat} (h : n ≤ 100000) : n ≤ sizeLine := Nat.le_trans h (by decide)
theorem size_lt {n : Nat} (h : n < 100000) : n < sizeLine := Nat.lt_of_lt_of_le h (by decide)
theorem len_rep {n : Nat} {b : Bool} : ((List.replicate n b).map V.bl).length = n := by rw [List.length_map, List.length_replicate]
theorem all_rep {n : Nat} : (List.replicate n true).all id = true := by
  rw [List.all_eq_true]
  intro x hx
  rw [List.eq_of_mem_replicate hx]; rfl
theorem same_mut {H H' : Hp} {p : Addr} {o : HO} (e : Same H H') (h : H p = none) : Same H (upd H' p o) := fun b x z => by
  rw [upd_ne (ne_of_none z h)]; exact e _ _ z

/-! ## rules with the written part named (for use within a block) -/
section
variable {X : Cx} {K : PySem.W.Frag}
theorem ixL (h : X.K = K) : IxR X (rIxL K) := h ▸ ix_list
theorem ixT (h : X.K = K) : IxR X (rIxT K) := h ▸ ix_tup
theorem ixQ (h : X.K = K) : IxR X (rIx K) := h ▸ ix_seq
def rLenK (K : PySem.W.Frag) : List V → Hp → VK → Prop := fun xs H Q => ∃ x n, xs = [x] ∧ LenV K x H n ∧ Q (.int n) H
theorem lenK (h : X.K = K) : CallR X (.builtin "len") (rLenK K) := by subst h; exact call_len
theorem isiK (h : X.K = K) : CallR X (.builtin "isinstance") (rIsi K) := h ▸ call_isi
theorem isiTK (h : X.K = K) : CallR X (.builtin "isinstance") (rIsiT K) := h ▸ call_isiT
def rListK (K : PySem.W.Frag) : List V → Hp → VK → Prop := fun xs H Q => ∃ p ys, xs = [.ref p] ∧ (SqL K H p ys ∨ SqT K H p ys) ∧ ∀ l, H l = none → Q (.ref l) (upd H l (.lst ys))
theorem listK (h : X.K = K) : CallR X (.type "list") (rListK K) := by subst h; exact call_list_of
def rTupK (K : PySem.W.Frag) : List V → Hp → VK → Prop := fun xs H Q => ∃ p ys, xs = [.ref p] ∧ ((SqL K H p ys ∧ ∀ l, H l = none → Q (.ref l) (upd H l (.tup ys))) ∨ (SqT K H p ys ∧ Q (.ref p) H))
theorem tupK (h : X.K = K) : CallR X (.type "tuple") (rTupK K) := by subst h; exact call_tuple_of
theorem sumK (hc : X.calm = true) (h : X.K = K) : CallR X (.builtin "sum") (rSum K) := h ▸ cr_sum hc
theorem allK (hc : X.calm = true) (h : X.K = K) : CallR X (.builtin "all") (rAll K) := h ▸ cr_all hc
theorem anyK (hc : X.calm = true) (h : X.K = K) : CallR X (.builtin "any") (rAny K) := h ▸ cr_any hc
theorem slL (h : X.K = K) : SlR X (rSlL K) := h ▸ sl_list
theorem slT (h : X.K = K) : SlR X (rSlA K) := h ▸ sl_tupA
theorem inK (h : X.K = K) : OpR X (compareOp .In) (rIn K false) := h ▸ op_in_seq
theorem ninK (h : X.K = K) : OpR X (compareOp .NotIn) (rIn K true) := h ▸ op_notIn_seq
theorem catK (h : X.K = K) : OpR X (binaryOp .Add) (rCatA K) := h ▸ op_catA
theorem piL (h : X.K = K) {tg l : Expr} {tl : TE} (hl : PE X l tl) : PI X tg l (iList K tl) := by subst h; exact pi_list hl
theorem piT (h : X.K = K) {tg l : Expr} {tl : TE} (hl : PE X l tl) : PI X tg l (iTup K tl) := by subst h; exact pi_tup hl
theorem pgT (h : X.K = K) {es : List Expr} {k : Nat} {t : TGs} {n : Nat} {pos : Pos} (hc : X.calm = true) (hp : PGs X es t) (hst : (assignEach es X.env).findIdx? (·.1) = none := by rfl) (hn : (assignEach es X.env).length = n := by rfl) : PG X (.Tuple es k pos) (gTup K n t) := by
  subst h; subst hn
  exact pg_tup hc hp rfl hst
theorem fldK (h : X.K = K) {e : Expr} {f : Str} {ta : TE} {pos : Pos} (he : PE X e ta) (hb : attributeBase e f X.env (eval e X.env) = eval e X.env) : PE X (.Attribute e f pos) (tFld K ta f) := by subst h; exact pe_fld he hb
end
end G3

set_option Elab.async false
set_option linter.all false
set_option maxRecDepth 100000
set_option maxHeartbeats 1000000
namespace G3
open PySem PySem.Spec PyProof.Rows L2
def top (i : Nat) : Stmt := PySem.Challenge.pw_chipsproved_k21_sums_and_scripts.main.body.getD i (.Pass ⟨0, 0, 0, 0⟩)
abbrev s_beside : Stmt := top 3
abbrev s_valences : Stmt := top 4
abbrev s_sent_by : Stmt := top 5
abbrev s_led : Stmt := top 6
abbrev s_BadSum___init__ : Stmt := inClass (top 8) 0
abbrev s_BadScript___init__ : Stmt := inClass (top 9) 0
abbrev s_is_whole : Stmt := top 21
abbrev s_told_sum : Stmt := top 12
abbrev s_told_script : Stmt := top 13
abbrev s_degree : Stmt := top 14
abbrev s_canonical : Stmt := top 15
abbrev s_fired : Stmt := top 16
abbrev s_BadGraph___init__ : Stmt := inClass (top 20) 0
abbrev s_is_whole_at10 : Stmt := top 10
abbrev s_edge_fault : Stmt := top 23
abbrev s_together : Stmt := top 24
abbrev s_Graph___init__ : Stmt := inClass (top 25) 0
abbrev s_Graph___eq__ : Stmt := inClass (top 25) 1
abbrev s_law_pool : Stmt := top 27
abbrev s_law_take : Stmt := top 28
abbrev s_law_pick : Stmt := top 29
abbrev s_law_is_integer : Stmt := top 30
abbrev s_law_same : Stmt := top 31
abbrev s_law_below : Stmt := top 32
abbrev s_law_order : Stmt := top 33
abbrev s_law_power : Stmt := top 34
abbrev s_law_given : Stmt := top 35
abbrev s_law_spoilt_row : Stmt := top 36
abbrev s_law_graph : Stmt := top 37
abbrev s_law_all_pairs : Stmt := top 38
abbrev s_law_table : Stmt := top 39
abbrev s_law_led : Stmt := top 40
abbrev s_law_great_chips : Stmt := top 41
abbrev s_law_told : Stmt := top 42
abbrev s_law_so : Stmt := top 43
abbrev s_law : Stmt := top 44
/-- what the module leaves free -/
structure Bt (mg : Str → Option Value) : Prop where
  len : mg "len" = none
  int : mg "int" = none
  list : mg "list" = none
  tuple : mg "tuple" = none
  range : mg "range" = none
  isinstance : mg "isinstance" = none
  bool : mg "bool" = none
  str : mg "str" = none
  all : mg "all" = none
  min : mg "min" = none
  max : mg "max" = none
  sum : mg "sum" = none
  enumerate : mg "enumerate" = none
  zip : mg "zip" = none
  sorted : mg "sorted" = none
  repr : mg "repr" = none
section
variable {P : Program} {w : World} {K : PySem.W.Frag} {mg : Str → Option Value} {base : Heap}
abbrev n_law_take : List Str := ["pool", "many", "digit", "cell", "mixed"]
abbrev p_law_take : List Str := ["pool", "many"]
theorem sc_law_take : FnScope n_law_take p_law_take (defScope s_law_take) := ⟨rfl, rfl, rfl, by decide +kernel, rfl, by decide +kernel, by decide +kernel⟩
/-- a digit from the drawn number's own figures -/
def spTake1 : Sp := fun vs H Q _ => ∃ (a c : Addr) (i d s m : Int), vs = [.ref a, .int m] ∧ H a = some (.lst (poolL c i d s)) ∧ 0 < d ∧ 0 < m ∧ m < 1073741824 ∧
  ∀ r d', 0 ≤ r → r < m → 0 ≤ d' → Q (.int r) (upd H a (.lst (poolL c i d' s)))
theorem ok_take1 (D : DefAt K mg "_law_take" "_law_take" s_law_take) (B : Bt mg) : Has P w K mg base CX0 1 "_law_take" p_law_take spTake1 := by
  refine has_of D sc_law_take (fun _ _ _ _ _ _ us hl => match us, hl with | [_, _], _ => rfl) (fun vs H Q E h => ?_) (fun f cdv A outer s H vs Q E hr h => ?_)
  · obtain ⟨a, c, i, d, s, m, rfl, _⟩ := h
    rfl
  · obtain ⟨a, c, i, d, s0, m, rfl, hp, hd, hm, hm2, q⟩ := h
    refine ⟨_, (pss_cons (ps_if (pt_cmpR op_gt (pe_ix (ixL (K := K) rfl) (pv 0) pe_int (fun _ _ => rfl)) pe_int (nomark _)) (pss_cons (ps_set (i := 2) sc_law_take.nd rfl (.inl rfl) (pe_op op_mod (pe_callTy call_int1 rfl B.int (by decide +kernel) (pa_cons (pe_ix (ixL (K := K) rfl) (pv 0) pe_int (fun _ _ => rfl)) pa_nil)) (pv 1)))
  (pss_cons (ps_asg (pe_op op_fdiv (pe_ix (ixL (K := K) rfl) (pv 0) pe_int (fun _ _ => rfl)) (pv 1)) (pg_sub (pv 0) pe_int set_list))
  (pss_one (ps_ret (pv 2))))) pss_nil)
  pss_never), ?_⟩
    have hL := SqL.of (K := K) hp
    refine ⟨_, rfl, _, _, 2, .int d, rfl, rfl, hL, atI_nat (j := 2) rfl, _, _, rfl, rfl, _, rfl, ?_⟩
    refine ifD (fun _ => ?_) (fun e => absurd hd e)
    -- digit = int(pool[2]) % many
    refine ⟨_, rfl, _, _, 2, .int d, rfl, rfl, hL, atI_nat (j := 2) rfl, .inl ⟨d, rfl, ?_⟩⟩
    refine ⟨_, rfl, _, _, rfl, rfl, hm, ?_⟩
    -- pool[2] = pool[2] // many
    refine ⟨_, rfl, _, _, 2, .int d, rfl, rfl, hL, atI_nat (j := 2) rfl, _, rfl, _, _, rfl, rfl, ⟨hm, hm2⟩, _, rfl, a, _, 2, 2, rfl, rfl, hp, rfl, ?_⟩
    refine ⟨_, rfl, ?_⟩
    exact q _ _ (Int.emod_nonneg _ (by omega)) (Int.emod_lt_of_pos _ hm) (Int.ediv_nonneg (by omega) (by omega))
/-- the law's draw: any number below many, nothing else is seen of it -/
def spTake0 : Sp := fun vs H Q _ => ∃ (a c : Addr) (i d s m : Int) (ns : List Int), vs = [.ref a, .int m] ∧ H a = some (.lst (poolL c i d s)) ∧ H c = some (.lst (ns.map V.int)) ∧ (∀ n ∈ ns, (0 : Int) ≤ n) ∧ 0 ≤ i ∧ 0 ≤ d ∧ 0 ≤ s ∧ s < 2147483647 ∧ 0 < m ∧ m < 1073741824 ∧
  ∀ r i' d' s', 0 ≤ r → r < m → 0 ≤ i' → 0 ≤ d' → 0 ≤ s' → s' < 2147483647 → Q (.int r) (upd H a (.lst (poolL c i' d' s')))
theorem ok_take0 (D : DefAt K mg "_law_take" "_law_take" s_law_take) (B : Bt mg) : Has P w K mg base CX0 2 "_law_take" p_law_take spTake0 := by
  have h_law_take : Has P w K mg base CX0 1 "_law_take" p_law_take spTake1 := ok_take1 D B
  refine has_of D sc_law_take (fun _ _ _ _ _ _ us hl => match us, hl with | [_, _], _ => rfl) (fun vs H Q E h => ?_) (fun f cdv A outer s H vs Q E hr h => ?_)
  · obtain ⟨a, c, i, d, s, m, ns, rfl, _⟩ := h
    rfl
  · obtain ⟨a, c, i, d, s0, m, ns, rfl, hp, hc, hns, hi, hd, hs, hs2, hm, hm2, q⟩ := h
    refine ⟨_, (pss_cons (ps_if (pt_cmpR op_gt (pe_ix (ixL (K := K) rfl) (pv 0) pe_int (fun _ _ => rfl)) pe_int (nomark _)) (pss_cons (ps_set (i := 2) sc_law_take.nd rfl (.inl rfl) (pe_op op_mod (pe_callTy call_int1 rfl B.int (by decide +kernel) (pa_cons (pe_ix (ixL (K := K) rfl) (pv 0) pe_int (fun _ _ => rfl)) pa_nil)) (pv 1)))
  (pss_cons (ps_asg (pe_op op_fdiv (pe_ix (ixL (K := K) rfl) (pv 0) pe_int (fun _ _ => rfl)) (pv 1)) (pg_sub (pv 0) pe_int set_list))
  (pss_one (ps_ret (pv 2))))) pss_nil)
  (pss_cons (ps_set (i := 3) sc_law_take.nd rfl (.inl rfl) pe_int)
  (Evl.pss_cut (ps_if (pt_cmpR op_lt (pe_ix (ixL (K := K) rfl) (pv 0) pe_int (fun _ _ => rfl)) (pe_callB (lenK (K := K) rfl) rfl B.len PySem.boot_len (pa_cons (pe_ix (ixL (K := K) rfl) (pv 0) pe_int (fun _ _ => rfl)) pa_nil)) (nomark _)) (pss_one (ps_set (i := 3) sc_law_take.nd rfl (.inl rfl) (pe_ix (ixL (K := K) rfl) (pe_ix (ixL (K := K) rfl) (pv 0) pe_int (fun _ _ => rfl)) (pe_ix (ixL (K := K) rfl) (pv 0) pe_int (fun _ _ => rfl)) (fun _ _ => rfl)))) pss_nil)
  (pss_cons (ps_asg (pe_op op_add (pe_ix (ixL (K := K) rfl) (pv 0) pe_int (fun _ _ => rfl)) pe_int) (pg_sub (pv 0) pe_int set_list))
  (pss_cons (ps_if (pt_cmpR op_ge (pv 3) (pe_op op_pow pe_int pe_int) (nomark _)) (pss_cons (ps_asg (pe_op op_fdiv (pv 3) pe_int) (pg_sub (pv 0) pe_int set_list))
  (pss_one (ps_ret (pe_h h_law_take hr pass0 (pa_cons (pv 0) (pa_cons (pv 1) pa_nil)))))) pss_nil)
  (pss_cons (ps_asg (pe_op op_mod (pe_callTy call_int1 rfl B.int (by decide +kernel) (pa_cons (pe_op op_add (pe_op op_add (pe_op op_mul (pe_ix (ixL (K := K) rfl) (pv 0) pe_int (fun _ _ => rfl)) pe_int) (pe_op op_mul (pv 3) pe_int)) (pe_op op_mul (pe_ix (ixL (K := K) rfl) (pv 0) pe_int (fun _ _ => rfl)) pe_int)) pa_nil)) pe_int) (pg_sub (pv 0) pe_int set_list))
  (pss_cons (ps_set (i := 4) sc_law_take.nd rfl (.inl rfl) (pe_op op_mod (pe_callTy call_int1 rfl B.int (by decide +kernel) (pa_cons (pe_op op_add (pe_op op_add (pe_op op_mul (pe_ix (ixL (K := K) rfl) (pv 0) pe_int (fun _ _ => rfl)) (pe_ix (ixL (K := K) rfl) (pv 0) pe_int (fun _ _ => rfl))) (pe_op op_mul (pe_ix (ixL (K := K) rfl) (pv 0) pe_int (fun _ _ => rfl)) pe_int)) pe_int) pa_nil)) pe_int))
  (pss_one (ps_ret (pe_op op_mod (pe_callTy call_int1 rfl B.int (by decide +kernel) (pa_cons (pe_op op_fdiv (pv 4) pe_int) pa_nil)) (pv 1))))))))))), ?_⟩
    have hL := SqL.of (K := K) hp
    have hC := SqL.of (K := K) hc
    have nca : c ≠ a := ne_of hc hp (fun e => by
      have e1 := HO.lst.inj e
      cases ns with
      | nil => cases e1
      | cons z r =>
        have := (List.cons.inj e1).1
        cases this)
    refine ⟨_, rfl, _, _, 2, .int d, rfl, rfl, hL, atI_nat (j := 2) rfl, _, _, rfl, rfl, _, rfl, ?_⟩
    refine ifD (fun _ => ?_) (fun d0 => ?_)
    · refine ⟨_, rfl, _, _, 2, .int d, rfl, rfl, hL, atI_nat (j := 2) rfl, .inl ⟨d, rfl, ?_⟩⟩
      refine ⟨_, rfl, _, _, rfl, rfl, hm, ?_⟩
      refine ⟨_, rfl, _, _, 2, .int d, rfl, rfl, hL, atI_nat (j := 2) rfl, _, rfl, _, _, rfl, rfl, ⟨hm, hm2⟩, _, rfl, a, _, 2, 2, rfl, rfl, hp, rfl, ?_⟩
      refine ⟨_, rfl, ?_⟩
      exact q _ i (d / m) s0 (Int.emod_nonneg _ (by omega)) (Int.emod_lt_of_pos _ hm) hi (Int.ediv_nonneg (by omega) (by omega)) hs hs2
    · have d0 : d = 0 := by omega
      subst d0
      refine ⟨fun σ' H' => H' = H ∧ ∃ (y1 y2 : Option V) (cell : Int), 0 ≤ cell ∧ σ' = [some (.ref a), some (.int m), y1, some (.int cell), y2], ?_, ?_⟩
      · refine ⟨_, rfl, _, _, 1, .int i, rfl, rfl, hL, atI_nat (j := 1) rfl, _, rfl, _, _, 0, .ref c, rfl, rfl, hL, atI_nat (j := 0) rfl, _, _, rfl, .inl ⟨_, hC, rfl⟩, _, _, rfl, rfl, _, rfl, ?_⟩
        refine ifD (fun hlt => ?_) (fun _ => ?_)
        · have hl2 : i.toNat < ns.length := by
            rw [List.length_map] at hlt
            omega
          refine ⟨_, rfl, _, _, 0, .ref c, rfl, rfl, hL, atI_nat (j := 0) rfl, _, rfl, _, _, 1, .int i, rfl, rfl, hL, atI_nat (j := 1) rfl, _, _, i, .int (ns[i.toNat]), rfl, rfl, hC, ?_, ?_⟩
          · exact atI_int hi (getMap hl2)
          · exact ⟨rfl, _, _, _, hns _ (List.getElem_mem hl2), rfl⟩
        · exact ⟨rfl, _, _, _, Int.le_refl 0, rfl⟩
      · rintro σ' H' ⟨rfl, y1, y2, cell, hcell, rfl⟩
        -- pool[1] = pool[1] + 1
        refine ⟨_, rfl, _, _, 1, .int i, rfl, rfl, hL, atI_nat (j := 1) rfl, _, _, rfl, rfl, _, rfl, a, _, 1, 1, rfl, rfl, hp, rfl, ?_⟩
        have hp1 : (upd H' a (.lst (poolL c (i + 1) 0 s0))) a = some (.lst (poolL c (i + 1) 0 s0)) := upd_same
        have hc1 : (upd H' a (.lst (poolL c (i + 1) 0 s0))) c = some (.lst (ns.map V.int)) := by rw [upd_ne nca]; exact hc
        have hL1 := SqL.of (K := K) hp1
        -- if cell >= 10 ** 18
        refine ⟨_, rfl, _, _, rfl, rfl, ⟨by decide, by decide, by decide⟩, _, _, rfl, rfl, _, rfl, ?_⟩
        refine ifD (fun hbig => ?_) (fun _ => ?_)
        · have hbig : (10 : Int) ^ (18 : Int).toNat ≤ cell := hbig
          have h18 : (10 : Int) ^ (18 : Int).toNat = 1000000000000000000 := by decide
          rw [h18] at hbig
          refine ⟨_, rfl, _, _, rfl, rfl, ⟨by decide, by decide⟩, _, rfl, a, _, 2, 2, rfl, rfl, hp1, rfl, ?_⟩
          refine ⟨_, rfl, _, rfl, a, c, i + 1, cell / 2, s0, m, rfl, upd_same, by omega, hm, hm2, fun r d' h1 h2 h3 => ?_⟩
          rw [upd_upd, upd_upd]
          exact q _ _ _ _ h1 h2 (by omega) h3 hs hs2
        · -- pool[3] = ..
          refine ⟨_, rfl, _, _, 3, .int s0, rfl, rfl, hL1, atI_nat (j := 3) rfl, _, _, rfl, rfl, .inr ⟨by decide, by decide⟩, _, rfl, _, _, rfl, rfl, .inr ⟨by decide, by decide⟩, _, _, rfl, rfl,
            _, rfl, _, _, 1, .int (i + 1), rfl, rfl, hL1, atI_nat (j := 1) rfl, _, _, rfl, rfl, .inr ⟨by decide, by decide⟩, _, _, rfl, rfl, .inl ⟨_, rfl, ?_⟩⟩
          obtain ⟨s1, es1⟩ : ∃ s1, s1 = (s0 * 48271 + cell * 69621 + (i + 1) * 613) % 2147483647 := ⟨_, rfl⟩
          have hx : 0 ≤ s1 := es1 ▸ Int.emod_nonneg (s0 * 48271 + cell * 69621 + (i + 1) * 613) (show (2147483647 : Int) ≠ 0 by decide)
          have hy : s1 < 2147483647 := es1 ▸ Int.emod_lt_of_pos (s0 * 48271 + cell * 69621 + (i + 1) * 613) (show (0 : Int) < 2147483647 by decide)
          refine ⟨_, _, rfl, rfl, (show (0 : Int) < 2147483647 by decide), _, rfl, a, _, 3, 3, rfl, rfl, hp1, rfl, ?_⟩
          rw [upd_upd]
          have hp2 : (upd H' a (.lst (poolL c (i + 1) 0 ((s0 * 48271 + cell * 69621 + (i + 1) * 613) % 2147483647)))) a = some (.lst (poolL c (i + 1) 0 s1)) := es1 ▸ upd_same
          have hL2 := SqL.of (K := K) hp2
          refine ⟨_, rfl, _, _, 3, .int s1, rfl, rfl, hL2, atI_nat (j := 3) rfl, _, rfl, _, _, 3, .int s1, rfl, rfl, hL2, atI_nat (j := 3) rfl, _, _, rfl, rfl, .inl ⟨by omega, by omega⟩,
            _, rfl, _, _, 3, .int s1, rfl, rfl, hL2, atI_nat (j := 3) rfl, _, _, rfl, rfl, .inr ⟨by decide, by decide⟩, _, _, rfl, rfl, _, _, rfl, rfl, .inl ⟨_, rfl, ?_⟩⟩
          refine ⟨_, _, rfl, rfl, (show (0 : Int) < 1000000007 by decide), ?_⟩
          -- return int(mixed // 3) % many
          refine ⟨_, rfl, _, _, rfl, rfl, ⟨by decide, by decide⟩, .inl ⟨_, rfl, ?_⟩⟩
          refine ⟨_, rfl, _, _, rfl, rfl, hm, ?_⟩
          exact q _ _ _ _ (Int.emod_nonneg _ (by omega)) (Int.emod_lt_of_pos _ hm) (by omega) (Int.le_refl 0) (es1 ▸ hx) (es1 ▸ hy)
/-- .. over the pool as it is seen from outside -/
def spTake : Sp := fun vs H Q _ => ∃ (a : Addr) (m : Int), vs = [.ref a, .int m] ∧ PoolAt H a ∧ 0 < m ∧ m < 1073741824 ∧ ∀ r, 0 ≤ r → r < m → Q (.int r) H
theorem ok_take (D : DefAt K mg "_law_take" "_law_take" s_law_take) (B : Bt mg) : Has P w K mg base CX0 2 "_law_take" p_law_take spTake := by
  obtain ⟨f, fd, F, m, kp, b⟩ := ok_take0 (P := P) (w := w) (base := base) D B
  refine ⟨f, fd, ghost_call F (fun vs H Q E h => ?_) (fun vs H Q E hp ok h => ?_), m, kp, b⟩
  · obtain ⟨a, m, rfl, _⟩ := h
    rfl
  · obtain ⟨a, m, rfl, ⟨c, ns, h1, h2, h3⟩, hm, hm2, q⟩ := h
    obtain ⟨i, d, s, hi, hd, hs, hs2, ok1⟩ := pool_open ok h1
    have nca : c ≠ a := ne_of h2 h1 (fun e => by cases e)
    refine ⟨_, fun v H2 => ∃ r i' d' s', v = .int r ∧ 0 ≤ r ∧ r < m ∧ 0 ≤ i' ∧ 0 ≤ d' ∧ 0 ≤ s' ∧ s' < 2147483647 ∧ H2 = upd H a (.lst (poolL c i' d' s')), fun _ _ _ => False, Gst.upd h1 (fun xs => ext_tup) (fun o u z => by cases z) (fun ps z => by cases z), ok1, ?_, ?_⟩
    · refine ⟨a, c, i, d, s, m, ns, rfl, upd_same, by rw [upd_ne nca]; exact h2, h3, hi, hd, hs, hs2, hm, hm2, fun r i' d' s' r1 r2 r3 r4 r5 r6 => ?_⟩
      exact ⟨r, i', d', s', rfl, r1, r2, r3, r4, r5, r6, upd_upd⟩
    · rintro v H2 hp2 ok2 ⟨r, i', d', s', rfl, r1, r2, r3, r4, r5, r6, rfl⟩
      have e2 : (upd H a (.lst (poolL c i' d' s'))) a = some (.lst (poolL c i' d' s')) := upd_same
      refine ⟨_, Gst.upd e2 (fun xs => lst_tup) (fun o u z => by cases z) (fun ps z => by cases z), pool_close ok2 e2 r3 r4 r5 r6, ?_⟩
      rw [upd_upd]
      have e : upd H a (PoolO a c) = H := by
        funext b'
        by_cases hb : b' = a
        · subst hb; rw [upd_same, h1]
        · rw [upd_ne hb]
      rw [e]
      exact q r r1 r2

/-! ### _law_pick -/
abbrev n_law_pick : List Str := ["pool", "rows"]
abbrev p_law_pick : List Str := ["pool", "rows"]
theorem sc_law_pick : FnScope n_law_pick p_law_pick (defScope s_law_pick) := ⟨rfl, rfl, rfl, by decide +kernel, rfl, by decide +kernel, by decide +kernel⟩
abbrev n_law_is_integer : List Str := ["actual"]
abbrev p_law_is_integer : List Str := ["actual"]
theorem sc_law_is_integer : FnScope n_law_is_integer p_law_is_integer (defScope s_law_is_integer) := ⟨rfl, rfl, rfl, by decide +kernel, rfl, by decide +kernel, by decide +kernel⟩
abbrev n_law_same : List Str := ["actual", "due", "k"]
abbrev p_law_same : List Str := ["actual", "due"]
theorem sc_law_same : FnScope n_law_same p_law_same (defScope s_law_same) := ⟨rfl, rfl, rfl, by decide +kernel, rfl, by decide +kernel, by decide +kernel⟩
def spPick (K : PySem.W.Frag) : Sp := fun vs H Q _ => ∃ (a b : Addr) (xs : List V), vs = [.ref a, .ref b] ∧ PoolAt H a ∧ SqL K H b xs ∧ 0 < xs.length ∧ xs.length < 1000000000 ∧ ∀ (i : Nat) v, xs[i]? = some v → Q v H
theorem ok_pick (D : DefAt K mg "_law_pick" "_law_pick" s_law_pick) (B : Bt mg) (h_law_take : Has P w K mg base CX0 2 "_law_take" p_law_take spTake) : Has P w K mg base CX0 3 "_law_pick" p_law_pick (spPick K) := by
  refine has_of D sc_law_pick (fun _ _ _ _ _ _ us hl => match us, hl with | [_, _], _ => rfl) (fun vs H Q E h => ?_) (fun f cdv A outer s H vs Q E hr h => ?_)
  · obtain ⟨a, b, xs, rfl, _⟩ := h
    rfl
  · obtain ⟨a, b, xs, rfl, hp, hb, h0, h1, q⟩ := h
    refine ⟨_, (pss_one (ps_ret (pe_ix (ixL (K := K) rfl) (pv 1) (pe_h h_law_take hr pass0 (pa_cons (pv 0) (pa_cons (pe_callB (lenK (K := K) rfl) rfl B.len PySem.boot_len (pa_cons (pv 1) pa_nil)) pa_nil))) (fun _ _ => rfl)))), ?_⟩
    refine ⟨_, rfl, _, rfl, _, rfl, _, xs.length, rfl, .inl ⟨_, hb, rfl⟩, ?_⟩
    refine ⟨a, _, rfl, hp, by omega, by omega, fun r r0 r1 => ?_⟩
    have hr : r.toNat < xs.length := by omega
    exact ⟨_, _, r, xs[r.toNat], rfl, rfl, hb, atI_int r0 (List.getElem?_eq_getElem hr), q _ _ (List.getElem?_eq_getElem hr)⟩
/-! ### _law_is_integer -/
def spIsI (K : PySem.W.Frag) : Sp := fun vs H Q _ => ∃ (x : V) (d : PyData), vs = [x] ∧ Dp K H x d ∧ Q (.bl (isI x)) H
theorem ok_is_integer (D : DefAt K mg "_law_is_integer" "_law_is_integer" s_law_is_integer) (B : Bt mg) : Has P w K mg base CX0 1 "_law_is_integer" p_law_is_integer (spIsI K) := by
  refine has_of D sc_law_is_integer (fun _ _ _ _ _ _ us hl => match us, hl with | [_], _ => rfl) (fun vs H Q E h => ?_) (fun f cdv A outer s H vs Q E hr h => ?_)
  · obtain ⟨x, d, rfl, _⟩ := h
    rfl
  · obtain ⟨x, d, rfl, hd, q⟩ := h
    refine ⟨_, (pss_one (ps_ret (pe_and (pe_callB (isiK (K := K) rfl) rfl B.isinstance (by decide +kernel) (pa_cons (pv 0) (pa_cons (pe_bltn (v := .ty "int") (u := .type "int") rfl B.int (by decide +kernel) rfl) pa_nil))) (pe_one (pe_not (pe_callB (isiK (K := K) rfl) rfl B.isinstance (by decide +kernel) (pa_cons (pv 0) (pa_cons (pe_bltn (v := .ty "bool") (u := .type "bool") rfl B.bool (by decide +kernel) rfl) pa_nil)))))))), ?_⟩
    have ty := Dp.ty hd
    refine ⟨_, rfl, _, _, _, _, _, rfl, .ty _, ty, kt_int d, _, rfl, ?_⟩
    cases hd with
    | non => exact iteF q
    | bl b => exact iteT ⟨_, rfl, _, _, _, _, _, rfl, .ty _, ty, kt_bool _, _, rfl, q⟩
    | int i => exact iteT ⟨_, rfl, _, _, _, _, _, rfl, .ty _, ty, kt_bool _, _, rfl, q⟩
    | str x => exact iteF q
    | lst _ _ => exact iteF q
    | tup _ _ => exact iteF q

/-! ### _law_same -/
def spSame (K : PySem.W.Frag) (n : Nat) : Sp := fun vs H Q _ => ∃ (x y : V) (d : PyData), vs = [x, y] ∧ Dp K H x d ∧ Dp K H y d ∧ Fit n d ∧ ∀ H', Same H H' → Q (.bl true) H'
theorem ok_same (D : DefAt K mg "_law_same" "_law_same" s_law_same) (B : Bt mg) (h_law_is_integer : Has P w K mg base CX0 1 "_law_is_integer" p_law_is_integer (spIsI K)) : ∀ n, Has P w K mg base CX0 (n + 1) "_law_same" p_law_same (spSame K n)
  | 0 => has_false D (fun _ _ _ _ _ _ us hl => match us, hl with | [_, _], _ => rfl) (fun vs H Q E h => by obtain ⟨x, y, d, _, _, _, h, _⟩ := h; exact h)
  | n + 1 => by
    have h_law_same := ok_same D B h_law_is_integer n
    refine has_of D sc_law_same (fun _ _ _ _ _ _ us hl => match us, hl with | [_, _], _ => rfl) (fun vs H Q E h => ?_) (fun f cdv A outer s H vs Q E hr h => ?_)
    · obtain ⟨x, y, d, rfl, _⟩ := h
      rfl
    · obtain ⟨x, y, d, rfl, hx, hy, hn, q⟩ := h
      have hr0 : Room 1 _ := hr.mono (by omega)
      refine ⟨_, (pss_cons (ps_if (pt_val (pe_callB (isiK (K := K) rfl) rfl B.isinstance (by decide +kernel) (pa_cons (pv 1) (pa_cons (pe_bltn (v := .ty "tuple") (u := .type "tuple") rfl B.tuple (by decide +kernel) rfl) pa_nil)))) (pss_cons (ps_if (PW.pt (pw_or (pt_not (pt_val (pe_callB (isiK (K := K) rfl) rfl B.isinstance (by decide +kernel) (pa_cons (pv 0) (pa_cons (pe_bltn (v := .ty "tuple") (u := .type "tuple") rfl B.tuple (by decide +kernel) rfl) pa_nil))))) (pw_or1 (pt_cmpR op_ne (pe_callB (lenK (K := K) rfl) rfl B.len PySem.boot_len (pa_cons (pv 0) pa_nil)) (pe_callB (lenK (K := K) rfl) rfl B.len PySem.boot_len (pa_cons (pv 1) pa_nil)) (nomark _))))) (pss_one (ps_ret pe_bl)) pss_nil)
  (pss_one (ps_ret (pe_callB (allK (K := K) rfl rfl) rfl B.all (by decide +kernel) (pa_cons (pe_lc (own := [("k", 2)]) (g := gName 2) (tt := tYes) rfl sc_law_same.nd (pi_range1 rfl B.range (pa_cons (pe_callB (lenK (K := K) rfl) rfl B.len PySem.boot_len (pa_cons (pv 1) pa_nil)) pa_nil)) (blkOk_by (N := n_law_same) (sc := defScope s_law_same) (by decide +kernel)) (fun _ _ _ _ _ => (pg_name (i := 2) sc_law_same.nd rfl (.inl rfl))) (fun _ _ _ _ _ => pts_nil) (fun _ _ _ _ _ => (pe_h h_law_same hr pass0 (pa_cons (pe_ix (ixQ (K := K) rfl) (pv 0) (pv 2) (fun _ _ => rfl)) (pa_cons (pe_ix (ixQ (K := K) rfl) (pv 1) (pv 2) (fun _ _ => rfl)) pa_nil))))) pa_nil))))) pss_nil)
  (pss_cons (ps_if (pt_val (pe_callB (isiK (K := K) rfl) rfl B.isinstance (by decide +kernel) (pa_cons (pv 1) (pa_cons (pe_bltn (v := .ty "list") (u := .type "list") rfl B.list (by decide +kernel) rfl) pa_nil)))) (pss_cons (ps_if (PW.pt (pw_or (pt_not (pt_val (pe_callB (isiK (K := K) rfl) rfl B.isinstance (by decide +kernel) (pa_cons (pv 0) (pa_cons (pe_bltn (v := .ty "list") (u := .type "list") rfl B.list (by decide +kernel) rfl) pa_nil))))) (pw_or1 (pt_cmpR op_ne (pe_callB (lenK (K := K) rfl) rfl B.len PySem.boot_len (pa_cons (pv 0) pa_nil)) (pe_callB (lenK (K := K) rfl) rfl B.len PySem.boot_len (pa_cons (pv 1) pa_nil)) (nomark _))))) (pss_one (ps_ret pe_bl)) pss_nil)
  (pss_one (ps_ret (pe_callB (allK (K := K) rfl rfl) rfl B.all (by decide +kernel) (pa_cons (pe_lc (own := [("k", 2)]) (g := gName 2) (tt := tYes) rfl sc_law_same.nd (pi_range1 rfl B.range (pa_cons (pe_callB (lenK (K := K) rfl) rfl B.len PySem.boot_len (pa_cons (pv 1) pa_nil)) pa_nil)) (blkOk_by (N := n_law_same) (sc := defScope s_law_same) (by decide +kernel)) (fun _ _ _ _ _ => (pg_name (i := 2) sc_law_same.nd rfl (.inl rfl))) (fun _ _ _ _ _ => pts_nil) (fun _ _ _ _ _ => (pe_h h_law_same hr pass0 (pa_cons (pe_ix (ixQ (K := K) rfl) (pv 0) (pv 2) (fun _ _ => rfl)) (pa_cons (pe_ix (ixQ (K := K) rfl) (pv 1) (pv 2) (fun _ _ => rfl)) pa_nil))))) pa_nil))))) pss_nil)
  (pss_cons (ps_if (pt_cmpR op_isN (pv 1) pe_non (nomark _)) (pss_one (ps_ret (pe_cmpR op_isN (pv 0) pe_non (nomark _)))) pss_nil)
  (pss_cons (ps_if (pt_val (pe_callB (isiK (K := K) rfl) rfl B.isinstance (by decide +kernel) (pa_cons (pv 1) (pa_cons (pe_bltn (v := .ty "bool") (u := .type "bool") rfl B.bool (by decide +kernel) rfl) pa_nil)))) (pss_one (ps_ret (pe_and (pe_callB (isiK (K := K) rfl) rfl B.isinstance (by decide +kernel) (pa_cons (pv 0) (pa_cons (pe_bltn (v := .ty "bool") (u := .type "bool") rfl B.bool (by decide +kernel) rfl) pa_nil))) (pe_one (pe_cmpR op_eq (pv 0) (pv 1) (nomark _)))))) pss_nil)
  (pss_cons (ps_if (pt_val (pe_callB (isiK (K := K) rfl) rfl B.isinstance (by decide +kernel) (pa_cons (pv 1) (pa_cons (pe_bltn (v := .ty "str") (u := .type "str") rfl B.str (by decide +kernel) rfl) pa_nil)))) (pss_one (ps_ret (pe_and (pe_callB (isiK (K := K) rfl) rfl B.isinstance (by decide +kernel) (pa_cons (pv 0) (pa_cons (pe_bltn (v := .ty "str") (u := .type "str") rfl B.str (by decide +kernel) rfl) pa_nil))) (pe_one (pe_cmpR op_eq (pv 0) (pv 1) (nomark _)))))) pss_nil)
  (pss_one (ps_ret (pe_and (pe_h h_law_is_integer hr pass0 (pa_cons (pv 0) pa_nil)) (pe_one (pe_cmpR op_eq (pv 0) (pv 1) (nomark _))))))))))), ?_⟩
      have tx := Dp.ty hx
      have ty := Dp.ty hy
      refine ⟨_, rfl, _, _, _, _, _, rfl, .ty _, ty, kt_tuple d, _, rfl, ?_⟩
      cases hy with
      | non =>
        cases hx
        refine iteF ⟨_, rfl, _, _, _, _, _, rfl, .ty _, ty, kt_list _, _, rfl, iteF ?_⟩
        exact ⟨_, rfl, rfl, _, rfl, iteT ⟨_, rfl, rfl, q _ (Same.refl _)⟩⟩
      | bl b =>
        cases hx
        refine iteF ⟨_, rfl, _, _, _, _, _, rfl, .ty _, ty, kt_list _, _, rfl, iteF ?_⟩
        refine ⟨_, rfl, rfl, _, rfl, iteF ?_⟩
        refine ⟨_, rfl, _, _, _, _, _, rfl, .ty _, ty, kt_bool _, _, rfl, iteT ?_⟩
        refine ⟨_, rfl, _, _, _, _, _, rfl, .ty _, ty, kt_bool _, _, rfl, iteT ?_⟩
        refine ⟨_, rfl, _, rfl, by cases b <;> rfl, ?_⟩
        exact bl_t rfl (q _ (Same.refl _))
      | int i =>
        cases hx
        refine iteF ⟨_, rfl, _, _, _, _, _, rfl, .ty _, ty, kt_list _, _, rfl, iteF ?_⟩
        refine ⟨_, rfl, rfl, _, rfl, iteF ?_⟩
        refine ⟨_, rfl, _, _, _, _, _, rfl, .ty _, ty, kt_bool _, _, rfl, iteF ?_⟩
        refine ⟨_, rfl, _, _, _, _, _, rfl, .ty _, ty, kt_str _, _, rfl, iteF ?_⟩
        refine ⟨_, rfl, _, _, rfl, .int i, _, rfl, iteT ?_⟩
        refine ⟨_, rfl, _, rfl, rfl, ?_⟩
        exact bl_t rfl (q _ (Same.refl _))
      | str z =>
        cases hx
        refine iteF ⟨_, rfl, _, _, _, _, _, rfl, .ty _, ty, kt_list _, _, rfl, iteF ?_⟩
        refine ⟨_, rfl, rfl, _, rfl, iteF ?_⟩
        refine ⟨_, rfl, _, _, _, _, _, rfl, .ty _, ty, kt_bool _, _, rfl, iteF ?_⟩
        refine ⟨_, rfl, _, _, _, _, _, rfl, .ty _, ty, kt_str _, _, rfl, iteT ?_⟩
        refine ⟨_, rfl, _, _, _, _, _, rfl, .ty _, ty, kt_str _, _, rfl, iteT ?_⟩
        refine ⟨_, rfl, _, rfl, rfl, ?_⟩
        exact bl_t rfl (q _ (Same.refl _))
      | @lst b ys ds h2 t2 =>
        cases hx with
        | @lst a xs _ h1 t1 =>
        have hz : ds.length ≤ 100000 := hn.1
        have l1 := DpAll.len t1
        have l2 := DpAll.len t2
        refine iteF ⟨_, rfl, _, _, _, _, _, rfl, .ty _, ty, kt_list _, _, rfl, iteT ?_⟩
        refine ⟨_, rfl, _, _, _, _, _, rfl, .ty _, tx, kt_list _, _, rfl, iteF ?_⟩
        refine ⟨_, rfl, _, xs.length, rfl, .inl ⟨_, h1, rfl⟩, _, rfl, _, ys.length, rfl, .inl ⟨_, h2, rfl⟩, rfl, _, rfl, ?_⟩
        refine ifN (fun e => absurd (by rw [l1, l2]) e) (fun _ => ?_)
        refine ⟨_, rfl, _, ys.length, rfl, .inl ⟨_, h2, rfl⟩, _, rfl, by omega, by omega, fun L nL => ?_⟩
        refine lc_range (lo := 0) (n := ys.length) (fun i H' => Same H H' ∧ H' L = some (.lst ((List.replicate i true).map V.bl))) ⟨same_upd nL, upd_same⟩ ?_ ?_
        · rintro i H' hi ⟨sm, hl⟩
          refine ⟨rfl, yes_ ?_⟩
          have hi2 : i < ds.length := by omega
          obtain ⟨v1, e1, d1⟩ := DpAll.get t1 hi2
          obtain ⟨v2, e2, d2⟩ := DpAll.get t2 hi2
          refine ⟨_, rfl, _, rfl, .inl ⟨_, _, _, v1, rfl, rfl, sm.seq h1, by rw [Int.zero_add]; exact atI_nat e1, ?_⟩⟩
          refine ⟨_, rfl, _, rfl, .inl ⟨_, _, _, v2, rfl, rfl, sm.seq h2, by rw [Int.zero_add]; exact atI_nat e2, ?_⟩⟩
          refine ⟨_, _, _, rfl, Dp.same sm d1, Dp.same sm d2, hn.2 _ (List.getElem_mem hi2), fun H2 sm2 => ?_⟩
          refine ⟨_, sm2 _ _ hl, size_lt (by rw [len_rep]; omega), same_mut (sm.trans sm2) nL, ?_⟩
          rw [upd_same, List.replicate_succ', List.map_append]; rfl
        · rintro H' ⟨sm, hl⟩
          refine ⟨_, _, rfl, SqL.of hl, ?_⟩
          rw [all_rep]
          exact q _ sm
      | @tup b ys ds h2 t2 =>
        cases hx with
        | @tup a xs _ h1 t1 =>
        have hz : ds.length ≤ 100000 := hn.1
        have l1 := DpAll.len t1
        have l2 := DpAll.len t2
        refine iteT ?_
        refine ⟨_, rfl, _, _, _, _, _, rfl, .ty _, tx, kt_tuple _, _, rfl, iteF ?_⟩
        refine ⟨_, rfl, _, xs.length, rfl, .inr ⟨_, h1, rfl⟩, _, rfl, _, ys.length, rfl, .inr ⟨_, h2, rfl⟩, rfl, _, rfl, ?_⟩
        refine ifN (fun e => absurd (by rw [l1, l2]) e) (fun _ => ?_)
        refine ⟨_, rfl, _, ys.length, rfl, .inr ⟨_, h2, rfl⟩, _, rfl, by omega, by omega, fun L nL => ?_⟩
        refine lc_range (lo := 0) (n := ys.length) (fun i H' => Same H H' ∧ H' L = some (.lst ((List.replicate i true).map V.bl))) ⟨same_upd nL, upd_same⟩ ?_ ?_
        · rintro i H' hi ⟨sm, hl⟩
          refine ⟨rfl, yes_ ?_⟩
          have hi2 : i < ds.length := by omega
          obtain ⟨v1, e1, d1⟩ := DpAll.get t1 hi2
          obtain ⟨v2, e2, d2⟩ := DpAll.get t2 hi2
          refine ⟨_, rfl, _, rfl, .inr (.inl ⟨_, _, _, v1, rfl, rfl, Same.seqT sm h1, by rw [Int.zero_add]; exact atI_nat e1, ?_⟩)⟩
          refine ⟨_, rfl, _, rfl, .inr (.inl ⟨_, _, _, v2, rfl, rfl, Same.seqT sm h2, by rw [Int.zero_add]; exact atI_nat e2, ?_⟩)⟩
          refine ⟨_, _, _, rfl, Dp.same sm d1, Dp.same sm d2, hn.2 _ (List.getElem_mem hi2), fun H2 sm2 => ?_⟩
          refine ⟨_, sm2 _ _ hl, size_lt (by rw [len_rep]; omega), same_mut (sm.trans sm2) nL, ?_⟩
          rw [upd_same, List.replicate_succ', List.map_append]; rfl
        · rintro H' ⟨sm, hl⟩
          refine ⟨_, _, rfl, SqL.of hl, ?_⟩
          rw [all_rep]
          exact q _ sm
end
end G3

set_option Elab.async false
set_option linter.all false
set_option maxRecDepth 100000
set_option maxHeartbeats 1000000
namespace G3
open PySem PySem.Spec PyProof.Rows L2
abbrev nV (n : Nat) : V := .int (n : Int)
theorem erase_perm {α : Type} : ∀ {ls : List α} {k : Nat} (h : k < ls.length), (ls[k] :: ls.eraseIdx k).Perm ls
  | [], _, h => absurd h (by simp)
  | x :: r, 0, _ => List.Perm.refl _
  | x :: r, k + 1, h => by
    have ih := erase_perm (ls := r) (k := k) (by simpa using h)
    have hk : k < r.length := by simpa using h
    show (r[k] :: x :: r.eraseIdx k).Perm (x :: r)
    exact (List.Perm.swap _ _ _).trans (ih.cons x)
theorem map_erase {α β : Type} (f : α → β) : ∀ (ls : List α) (k : Nat), (ls.map f).eraseIdx k = (ls.eraseIdx k).map f
  | [], _ => rfl
  | _ :: _, 0 => rfl
  | x :: r, k + 1 => by
    show f x :: (r.map f).eraseIdx k = f x :: (r.eraseIdx k).map f
    rw [map_erase f r k]
theorem rgV_nat (m : Int) : rgV 0 m = (List.range m.toNat).map nV := by
  unfold rgV
  rw [Int.sub_zero]
  apply List.map_congr_left
  intro i _
  rw [Int.zero_add]
section
variable {P : Program} {w : World} {K : PySem.W.Frag} {mg : Str → Option Value} {base : Heap}
abbrev n_law_order : List Str := ["pool", "many", "left", "found", "k"]
abbrev p_law_order : List Str := ["pool", "many"]
theorem sc_law_order : FnScope n_law_order p_law_order (defScope s_law_order) := ⟨rfl, rfl, rfl, by decide +kernel, rfl, by decide +kernel, by decide +kernel⟩
abbrev n_law_given : List Str := ["pool", "row"]
abbrev p_law_given : List Str := ["pool", "row"]
theorem sc_law_given : FnScope n_law_given p_law_given (defScope s_law_given) := ⟨rfl, rfl, rfl, by decide +kernel, rfl, by decide +kernel, by decide +kernel⟩
def spOrder : Sp := fun vs H Q _ => ∃ (a : Addr) (m : Int), vs = [.ref a, .int m] ∧ PoolAt H a ∧ 0 ≤ m ∧ m ≤ 10000 ∧ ∀ (H' : Hp) (p : Addr) (ns : List Nat), Same H H' → H' p = some (.tup (ns.map nV)) → ns.Perm (List.range m.toNat) → Q (.ref p) H'
theorem ok_order (D : DefAt K mg "_law_order" "_law_order" s_law_order) (B : Bt mg) (h_law_take : Has P w K mg base CX0 2 "_law_take" p_law_take spTake) : Has P w K mg base CX0 3 "_law_order" p_law_order spOrder := by
  refine has_of D sc_law_order (fun _ _ _ _ _ _ us hl => match us, hl with | [_, _], _ => rfl) (fun vs H Q E h => ?_) (fun f cdv A outer s H vs Q E hr h => ?_)
  · obtain ⟨a, m, rfl, _⟩ := h
    rfl
  · obtain ⟨a, m, rfl, hp, h0, h1, q⟩ := h
    refine ⟨_, (pss_cons (ps_set (i := 2) sc_law_order.nd rfl (.inl rfl) (pe_listRg rfl rfl B.list (prg_1 rfl B.range (pv 1))))
  (pss_cons (ps_set (i := 3) sc_law_order.nd rfl (.inl rfl) (pe_tup pa_nil))
  (pss_cons (ps_for PassesOwn.never rfl (pi_range1 rfl B.range (pa_cons (pv 1) pa_nil)) (pg_name (i := 4) sc_law_order.nd rfl (.inl rfl)) (pss_one (ps_set (i := 3) sc_law_order.nd rfl (.inl rfl) (pe_op (catK (K := K) rfl) (pv 3) (pe_tup (pa_cons (pe_bm PySem.F.plainAttrs_list PySem.F.slot_list_pop PySem.F.type_list_pop mt_popAt (pv 2) (pa_cons (pe_h h_law_take hr pass0 (pa_cons (pv 0) (pa_cons (pe_callB (lenK (K := K) rfl) rfl B.len PySem.boot_len (pa_cons (pv 2) pa_nil)) pa_nil))) pa_nil)) pa_nil))))))
  (pss_one (ps_ret (pv 3)))))), ?_⟩
    refine ⟨_, rfl, m, rfl, .of_le (by decide) (by omega) (by decide) h0, fun l nl => ?_⟩
    rw [rgV_nat]
    refine ⟨Nat.zero_le _, fun t nt => ?_⟩
    refine ⟨_, rfl, m, rfl, by omega, by omega, for_range (lo := 0) (n := m.toNat) (fun i σ H' => ∃ (fp : Addr) (ls fs : List Nat) (y : Option V), σ = [some (.ref a), some (.int m), some (.ref l), some (.ref fp), y] ∧ Same H H' ∧ H' l = some (.lst (ls.map nV)) ∧ H' fp = some (.tup (fs.map nV)) ∧ fs.length = i ∧ (fs ++ ls).Perm (List.range m.toNat)) ?_ ?_ ?_⟩
    · refine ⟨t, List.range m.toNat, [], none, rfl, (same_upd nl).trans (same_upd nt), ?_, upd_same, rfl, List.Perm.refl _⟩
      rw [upd_ne, upd_same]
      intro e
      rw [← e, upd_same] at nt
      cases nt
    · rintro i σ H' hi ⟨fp, ls, fs, y, rfl, sm, hl, hf, ei, pm⟩
      have el : fs.length + ls.length = m.toNat := by
        have := pm.length_eq
        rwa [List.length_append, List.length_range] at this
      have hl0 : 0 < ls.length := by omega
      have nlH : H l = none := nl
      refine ⟨_, rfl, _, rfl, .inl ⟨rfl, _, SqL.of hl⟩, _, rfl, _, rfl, _, ls.length, rfl, .inl ⟨_, SqL.of hl, by rw [List.length_map]⟩, ?_⟩
      refine ⟨a, _, rfl, hp.same sm, by omega, by omega, fun r r0 r1 => ?_⟩
      have hk : r.toNat < ls.length := by omega
      refine ⟨l, _, r, r.toNat, nV ls[r.toNat], rfl, rfl, hl, by omega, by omega, ?_, getMap hk, ?_⟩
      · rw [List.length_map]; exact seqIndex_of r0 (by omega)
      refine ⟨by show 1 ≤ sizeLine; decide, fun T nT => ?_⟩
      have nfl : fp ≠ l := ne_of hf hl (fun e => by cases e)
      have nlT : l ≠ T := fun e => by rw [← e, upd_same] at nT; cases nT
      have nfT : fp ≠ T := fun e => by rw [← e, upd_ne nfl, hf] at nT; cases nT
      have hT : H' T = none := by rwa [upd_ne (Ne.symm nlT)] at nT
      have hf1 : (upd (upd H' l (.lst ((ls.map nV).eraseIdx r.toNat))) T (.tup [nV ls[r.toNat]])) fp = some (.tup (fs.map nV)) := by rw [upd_ne nfT, upd_ne nfl]; exact hf
      have hT1 : (upd (upd H' l (.lst ((ls.map nV).eraseIdx r.toNat))) T (.tup [nV ls[r.toNat]])) T = some (.tup [nV ls[r.toNat]]) := upd_same
      have hl1 : (upd (upd H' l (.lst ((ls.map nV).eraseIdx r.toNat))) T (.tup [nV ls[r.toNat]])) l = some (.lst ((ls.eraseIdx r.toNat).map nV)) := by rw [upd_ne nlT, upd_same, map_erase]
      have s1 : Same H (upd (upd H' l (.lst ((ls.map nV).eraseIdx r.toNat))) T (.tup [nV ls[r.toNat]])) := (same_mut sm nlH).trans (same_upd nT)
      have pm' : (fs ++ [ls[r.toNat]] ++ ls.eraseIdx r.toNat).Perm (List.range m.toNat) := by
        rw [List.append_assoc]
        exact ((erase_perm hk).append_left fs).trans pm
      refine ⟨fp, T, _, _, rfl, rfl, SqT.of hf1, SqT.of hT1, size_le (by rw [List.length_map]; show fs.length + 1 ≤ 100000; omega), fun e0 => ?_, fun _ e => (nomatch e), fun _ _ p np => ?_⟩
      · have e0 : fs = [] := List.map_eq_nil_iff.mp e0
        subst e0
        exact ⟨T, _, [ls[r.toNat]], _, rfl, s1, hl1, hT1, by rw [← ei]; rfl, pm'⟩
      · refine ⟨p, _, fs ++ [ls[r.toNat]], _, rfl, s1.trans (same_upd np), ?_, ?_, by rw [List.length_append, ei]; rfl, pm'⟩
        · rw [upd_ne (ne_of_none hl1 np)]; exact hl1
        · rw [upd_same, List.map_append]; rfl
    · rintro σ H' ⟨fp, ls, fs, y, rfl, sm, hl, hf, ei, pm⟩
      have el : fs.length + ls.length = m.toNat := by
        have := pm.length_eq
        rwa [List.length_append, List.length_range] at this
      have : ls = [] := List.eq_nil_of_length_eq_zero (by omega)
      subst this
      rw [List.append_nil] at pm
      exact ⟨_, rfl, q _ _ _ sm hf pm⟩
/-! ### _law_given -/
def spGiven (K : PySem.W.Frag) : Sp := fun vs H Q _ => ∃ (a b : Addr) (xs : List V), vs = [.ref a, .ref b] ∧ PoolAt H a ∧ (SqL K H b xs) ∧ ∀ (H' : Hp) (p : Addr), Same H H' → H p = none → (H' p = some (.lst xs) ∨ H' p = some (.tup xs)) → Q (.ref p) H'
theorem ok_given (D : DefAt K mg "_law_given" "_law_given" s_law_given) (B : Bt mg) (h_law_take : Has P w K mg base CX0 2 "_law_take" p_law_take spTake) : Has P w K mg base CX0 3 "_law_given" p_law_given (spGiven K) := by
  refine has_of D sc_law_given (fun _ _ _ _ _ _ us hl => match us, hl with | [_, _], _ => rfl) (fun vs H Q E h => ?_) (fun f cdv A outer s H vs Q E hr h => ?_)
  · obtain ⟨a, b, xs, rfl, _⟩ := h
    rfl
  · obtain ⟨a, b, xs, rfl, hp, hb, q⟩ := h
    refine ⟨_, (pss_one (ps_ret (pe_ifExp (pt_cmpR op_eq (pe_h h_law_take hr pass0 (pa_cons (pv 0) (pa_cons pe_int pa_nil))) pe_int (nomark _)) (pe_callTy (listK (K := K) rfl) rfl B.list (by decide +kernel) (pa_cons (pv 1) pa_nil)) (pe_callTy (tupK (K := K) rfl) rfl B.tuple (by decide +kernel) (pa_cons (pv 1) pa_nil))))), ?_⟩
    refine ⟨_, rfl, a, _, rfl, hp, by decide, by decide, fun r r0 r1 => ?_⟩
    refine ⟨rfl, _, rfl, ifD (fun _ => ?_) (fun _ => ?_)⟩
    · exact ⟨_, rfl, _, _, rfl, .inl hb, fun p np => q _ _ (same_upd np) np (.inl upd_same)⟩
    · exact ⟨_, rfl, _, _, rfl, .inl ⟨hb, fun p np => q _ _ (same_upd np) np (.inr upd_same)⟩⟩
end
end G3

set_option Elab.async false
set_option linter.all false
set_option maxRecDepth 100000
set_option maxHeartbeats 1000000
namespace G3
open PySem PySem.Spec PyProof.Rows L2
/-! ## lists of pairs -/
abbrev Pr : Type := Nat × Nat
def Prs (H : Hp) : List V → List Pr → Prop
  | [], [] => True
  | v :: vs, p :: ps => (∃ t, v = .ref t ∧ H t = some (.tup [nV p.1, nV p.2])) ∧ Prs H vs ps
  | _, _ => False
theorem Prs.mono {H H' : Hp} (e : ∀ t a b, H t = some (.tup [nV a, nV b]) → H' t = some (.tup [nV a, nV b])) : ∀ {vs : List V} {ps : List Pr}, Prs H vs ps → Prs H' vs ps
  | [], [], _ => True.intro
  | v :: vs, p :: ps, ⟨⟨t, h1, h2⟩, h⟩ => ⟨⟨t, h1, e _ _ _ h2⟩, Prs.mono e h⟩
  | [], _ :: _, h => h.elim
  | _ :: _, [], h => h.elim
theorem Prs.same {H H' : Hp} (e : Same H H') {vs : List V} {ps : List Pr} (h : Prs H vs ps) : Prs H' vs ps := h.mono fun t a b z => e _ _ z
theorem Prs.mut {H : Hp} {p : Addr} {xs : List V} {o : HO} (hp : H p = some (.lst xs)) {vs : List V} {ps : List Pr} (h : Prs H vs ps) : Prs (upd H p o) vs ps := h.mono fun t a b z => by
  rw [upd_ne (ne_of z hp (fun q => by cases q))]; exact z
theorem Prs.len {H : Hp} : ∀ {vs : List V} {ps : List Pr}, Prs H vs ps → vs.length = ps.length
  | [], [], _ => rfl
  | _ :: _, _ :: _, ⟨_, h⟩ => by rw [List.length_cons, List.length_cons, Prs.len h]
  | [], _ :: _, h => h.elim
  | _ :: _, [], h => h.elim
theorem Prs.app {H : Hp} : ∀ {vs ws : List V} {ps qs : List Pr}, Prs H vs ps → Prs H ws qs → Prs H (vs ++ ws) (ps ++ qs)
  | [], _, [], _, _, k => k
  | _ :: _, _, _ :: _, _, ⟨a, h⟩, k => ⟨a, Prs.app h k⟩
  | [], _, _ :: _, _, h, _ => h.elim
  | _ :: _, _, [], _, h, _ => h.elim
theorem Prs.get {H : Hp} : ∀ {vs : List V} {ps : List Pr} {i : Nat}, Prs H vs ps → (h : i < ps.length) → ∃ t, vs[i]? = some (.ref t) ∧ H t = some (.tup [nV ps[i].1, nV ps[i].2])
  | _ :: _, _ :: _, 0, ⟨⟨t, h1, h2⟩, _⟩, _ => ⟨t, by rw [h1]; rfl, h2⟩
  | _ :: vs, _ :: ps, i + 1, ⟨_, h⟩, hi => by
    obtain ⟨t, e, k⟩ := Prs.get (i := i) h (by simpa using hi)
    exact ⟨t, by simpa using e, k⟩
  | [], [], _, _, h => absurd h (by simp)
  | [], _ :: _, _, h, _ => h.elim
  | _ :: _, [], _, h, _ => h.elim
def PLst (H : Hp) (a : Addr) (ps : List Pr) : Prop := ∃ vs, H a = some (.lst vs) ∧ Prs H vs ps
theorem PLst.same {H H' : Hp} {a : Addr} {ps : List Pr} (e : Same H H') (h : PLst H a ps) : PLst H' a ps := by
  obtain ⟨vs, h1, h2⟩ := h
  exact ⟨vs, e _ _ h1, h2.same e⟩
/-- a new pair behind the list's end -/
theorem PLst.push {H H1 : Hp} {L T : Addr} {ps : List Pr} {a b : Nat} (h : PLst H L ps) (e : Same H H1) (nT : H1 T = none) :
    ∃ vs, (upd H1 T (.tup [nV a, nV b])) L = some (.lst vs) ∧ vs.length = ps.length ∧ PLst (upd (upd H1 T (.tup [nV a, nV b])) L (.lst (vs ++ [.ref T]))) L (ps ++ [(a, b)]) := by
  obtain ⟨vs, h1, h2⟩ := h
  have s1 : Same H1 (upd H1 T (.tup [nV a, nV b])) := same_upd nT
  have hL : (upd H1 T (.tup [nV a, nV b])) L = some (.lst vs) := s1 _ _ (e _ _ h1)
  refine ⟨vs, hL, h2.len, _, upd_same, ?_⟩
  refine Prs.app (Prs.mut hL (h2.same (e.trans s1))) ⟨⟨T, rfl, ?_⟩, True.intro⟩
  rw [upd_ne (ne_of (upd_same (H := H1) (a := T)) hL (fun q => by cases q)), upd_same]
/-- a pair that stands, behind the list's end -/
theorem PLst.push' {H : Hp} {L T : Addr} {ps : List Pr} {a b : Nat} (h : PLst H L ps) (hT : H T = some (.tup [nV a, nV b])) :
    ∃ vs, H L = some (.lst vs) ∧ vs.length = ps.length ∧ PLst (upd H L (.lst (vs ++ [.ref T]))) L (ps ++ [(a, b)]) := by
  obtain ⟨vs, h1, h2⟩ := h
  refine ⟨vs, h1, h2.len, _, upd_same, ?_⟩
  refine Prs.app (Prs.mut h1 h2) ⟨⟨T, rfl, ?_⟩, True.intro⟩
  rw [upd_ne (ne_of hT h1 (fun q => by cases q))]; exact hT

/-! ## edges by which all places are together -/
def Spans (n : Nat) (ps : List Pr) : Prop := ∀ f : Nat → Bool, (∀ e ∈ ps, f e.1 = f e.2) → ∀ i, i < n → f i = f 0
def Edg (n : Nat) (ps : List Pr) : Prop := ∀ e ∈ ps, e.1 ≠ e.2 ∧ e.1 < n ∧ e.2 < n
def Tree (ps : List Pr) : Prop := ∀ (j : Nat) (h : j < ps.length), ps[j].2 = j + 1 ∧ ps[j].1 ≤ j
theorem Tree.nil : Tree [] := fun j h => absurd h (by simp)
theorem Tree.app {ps : List Pr} {a b : Nat} (h : Tree ps) (hb : b = ps.length + 1) (ha : a ≤ ps.length) : Tree (ps ++ [(a, b)]) := fun j hj => by
  by_cases e : j < ps.length
  · rw [List.getElem_append_left e]; exact h j e
  · have ej : j = ps.length := by rw [List.length_append] at hj; simp at hj; omega
    subst ej
    rw [List.getElem_append_right (Nat.le_refl _)]
    simp
    exact ⟨hb, ha⟩
theorem Tree.spans {ps : List Pr} (h : Tree ps) : Spans (ps.length + 1) ps := fun f hf i => by
  induction i using Nat.strongRecOn with
  | _ i ih =>
    intro hi
    cases i with
    | zero => rfl
    | succ j =>
      have hj : j < ps.length := by omega
      obtain ⟨h2, h1⟩ := h j hj
      have e := hf _ (List.getElem_mem hj)
      rw [h2] at e
      rw [← e]
      exact ih _ (by omega) (by omega)
theorem Tree.edg {ps : List Pr} (h : Tree ps) : Edg (ps.length + 1) ps := fun e he => by
  obtain ⟨j, hj, rfl⟩ := List.getElem_of_mem he
  obtain ⟨h2, h1⟩ := h j hj
  omega
theorem Spans.app {n : Nat} {ps qs : List Pr} (h : Spans n ps) : Spans n (ps ++ qs) := fun f hf => h f fun e he => hf e (List.mem_append_left _ he)
theorem Edg.app {n : Nat} {ps qs : List Pr} (h : Edg n ps) (k : Edg n qs) : Edg n (ps ++ qs) := fun e he => (List.mem_append.mp he).elim (h e) (k e)
end G3

set_option Elab.async false
set_option linter.all false
set_option maxRecDepth 100000
set_option maxHeartbeats 2000000
namespace G3
open PySem PySem.Spec PyProof.Rows L2
def allPairs (n : Nat) : List Pr := (List.range n).flatMap fun v => (List.range v).map fun u => (u, v)
theorem allPairs_succ (n : Nat) : allPairs (n + 1) = allPairs n ++ (List.range n).map fun u => (u, n) := by
  unfold allPairs
  rw [List.range_succ, List.flatMap_append]
  simp
theorem mem_allPairs {n : Nat} {e : Pr} : e ∈ allPairs n ↔ e.1 < e.2 ∧ e.2 < n := by
  unfold allPairs
  rw [List.mem_flatMap]
  constructor
  · rintro ⟨v, hv, h⟩
    obtain ⟨u, hu, rfl⟩ := List.mem_map.mp h
    exact ⟨List.mem_range.mp hu, List.mem_range.mp hv⟩
  · rintro ⟨h1, h2⟩
    exact ⟨e.2, List.mem_range.mpr h2, List.mem_map.mpr ⟨e.1, List.mem_range.mpr h1, rfl⟩⟩
theorem allPairs_len2 (n : Nat) : 2 * (allPairs n).length = n * (n - 1) := by
  induction n with
  | zero => rfl
  | succ n ih =>
    rw [allPairs_succ, List.length_append, List.length_map, List.length_range, Nat.mul_add, ih]
    cases n with
    | zero => rfl
    | succ m =>
      show (m + 1) * m + 2 * (m + 1) = (m + 1 + 1) * (m + 1)
      rw [Nat.add_mul (m + 1) 1, Nat.mul_add (m + 1) m 1]
      omega
theorem allPairs_le (n : Nat) : (allPairs n).length ≤ n * n := by
  have := allPairs_len2 n
  have h : n * (n - 1) ≤ n * n := Nat.mul_le_mul_left _ (Nat.sub_le _ _)
  omega
section
variable {P : Program} {w : World} {K : PySem.W.Frag} {mg : Str → Option Value} {base : Heap}
abbrev n_law_all_pairs : List Str := ["n", "found", "v", "u"]
abbrev p_law_all_pairs : List Str := ["n"]
theorem sc_law_all_pairs : FnScope n_law_all_pairs p_law_all_pairs (defScope s_law_all_pairs) := ⟨rfl, rfl, rfl, by decide +kernel, rfl, by decide +kernel, by decide +kernel⟩
def spAllPairs : Sp := fun vs H Q _ => ∃ n : Nat, vs = [nV n] ∧ n ≤ 64 ∧ ∀ (H' : Hp) (p : Addr), Same H H' → H p = none → PLst H' p (allPairs n) → Q (.ref p) H'
theorem ok_all_pairs (D : DefAt K mg "_law_all_pairs" "_law_all_pairs" s_law_all_pairs) (B : Bt mg) : Has P w K mg base CX0 1 "_law_all_pairs" p_law_all_pairs spAllPairs := by
  refine has_of D sc_law_all_pairs (fun _ _ _ _ _ _ us hl => match us, hl with | [_], _ => rfl) (fun vs H Q E h => ?_) (fun f cdv A outer s H vs Q E hr h => ?_)
  · obtain ⟨n, rfl, _⟩ := h
    rfl
  · obtain ⟨n, rfl, hn, q⟩ := h
    refine ⟨_, (pss_cons (ps_set (i := 1) sc_law_all_pairs.nd rfl (.inl rfl) (pe_lst pa_nil))
  (pss_cons (ps_for PassesOwn.never rfl (pi_range1 rfl B.range (pa_cons (pv 0) pa_nil)) (pg_name (i := 2) sc_law_all_pairs.nd rfl (.inr rfl)) (pss_one (ps_set (i := 1) sc_law_all_pairs.nd rfl (.inl rfl) (pe_op op_cat (pv 1) (pe_lc (own := [("u", 3)]) (g := gName 3) (tt := tYes) rfl sc_law_all_pairs.nd (pi_range1 rfl B.range (pa_cons (pv 2) pa_nil)) (blkOk_by (N := n_law_all_pairs) (sc := defScope s_law_all_pairs) (by decide +kernel)) (fun _ _ _ _ _ => (pg_name (i := 3) sc_law_all_pairs.nd rfl (.inl rfl))) (fun _ _ _ _ _ => pts_nil) (fun _ _ _ _ _ => (pe_tup (pa_cons (pv 3) (pa_cons (pv 2) pa_nil)))))))))
  (pss_one (ps_ret (pv 1))))), ?_⟩
    refine ⟨Nat.zero_le _, fun p np => ?_⟩
    refine ⟨_, rfl, _, rfl, by omega, by omega, for_range (lo := 0) (n := n) (fun i σ H' => ∃ (p : Addr) (y : Option V), σ = [some (nV n), some (.ref p), y, none] ∧ Same H H' ∧ H p = none ∧ PLst H' p (allPairs i)) ?_ ?_ ?_⟩
    · exact ⟨p, none, rfl, same_upd np, np, [], upd_same, True.intro⟩
    · rintro i σ H' hi ⟨p, y, rfl, sm, np, pl⟩
      have ei : V.int (0 + (i : Int)) = nV i := by rw [Int.zero_add]
      rw [ei]
      refine ⟨_, rfl, _, rfl, _, rfl, by omega, by omega, fun L nL => ?_⟩
      refine lc_range (lo := 0) (n := i) (fun j H2 => Same H' H2 ∧ PLst H2 L ((List.range j).map fun u => (u, i))) ⟨same_upd nL, [], upd_same, True.intro⟩ ?_ ?_
      · rintro j H2 hj ⟨sm2, pl2⟩
        have ej : V.int (0 + (j : Int)) = nV j := by rw [Int.zero_add]
        rw [ej]
        refine ⟨rfl, yes_ ?_⟩
        refine ⟨_, rfl, _, rfl, by show 2 ≤ sizeLine; decide, fun T nT => ?_⟩
        obtain ⟨vs, h1, h2, h3⟩ := pl2.push (a := j) (b := i) (Same.refl H2) nT
        refine ⟨vs, h1, size_lt (by rw [h2, List.length_map, List.length_range]; omega), same_mut (sm2.trans (same_upd nT)) nL, ?_⟩
        rw [List.range_succ, List.map_append]
        exact h3
      · rintro H2 ⟨sm2, vs2, h1, h2⟩
        obtain ⟨vs, g1, g2⟩ := pl.same sm2
        have l1 := g2.len
        have l2 := h2.len
        have := allPairs_le i
        have h64 : i * i ≤ 64 * 64 := Nat.mul_le_mul (by omega) (by omega)
        rw [List.length_map, List.length_range] at l2
        refine ⟨p, L, _, _, rfl, rfl, g1, h1, size_le (by omega), fun p2 np2 => ?_⟩
        refine ⟨p2, _, rfl, (sm.trans sm2).trans (same_upd np2), (sm.trans sm2).free np2, _, upd_same, ?_⟩
        rw [allPairs_succ]
        exact Prs.same (same_upd np2) (Prs.app g2 h2)
    · rintro σ H' ⟨p, y, rfl, sm, np, pl⟩
      exact ⟨_, rfl, q _ _ sm np pl⟩
end
end G3

set_option Elab.async false
set_option linter.all false
set_option maxRecDepth 100000
set_option maxHeartbeats 2000000
namespace G3
open PySem PySem.Spec PyProof.Rows L2
/-! ## kinds of graphs -/
theorem allPairs_spans {n : Nat} : Spans n (allPairs n) := fun f hf i hi => by
  by_cases h : i = 0
  · rw [h]
  · exact (hf (0, i) (mem_allPairs.mpr ⟨Nat.pos_of_ne_zero h, hi⟩)).symm
theorem allPairs_edg {n : Nat} : Edg n (allPairs n) := fun e he => by
  obtain ⟨h1, h2⟩ := mem_allPairs.mp he
  omega
def bip (n h : Nat) : List Pr := (List.range (h * (n - h))).map fun k => (k / (n - h), h + k % (n - h))
theorem bip_mem {n h u v : Nat} (hn : h < n) (hu : u < h) (h1 : h ≤ v) (h2 : v < n) : (u, v) ∈ bip n h := by
  refine List.mem_map.mpr ⟨u * (n - h) + (v - h), List.mem_range.mpr ?_, ?_⟩
  · have : (u + 1) * (n - h) ≤ h * (n - h) := Nat.mul_le_mul_right _ hu
    rw [Nat.add_mul, Nat.one_mul] at this
    omega
  · have p : 0 < n - h := by omega
    have q : v - h < n - h := by omega
    rw [Nat.mul_comm u, Nat.mul_add_div p, Nat.div_eq_of_lt q, Nat.mul_add_mod, Nat.mod_eq_of_lt q]
    simp
    omega
theorem bip_edg {n h : Nat} (hn : h < n) : Edg n (bip n h) := fun e he => by
  obtain ⟨k, hk, rfl⟩ := List.mem_map.mp he
  have hk := List.mem_range.mp hk
  have p : 0 < n - h := by omega
  have h1 : k / (n - h) < h := (Nat.div_lt_iff_lt_mul p).mpr hk
  have h2 : k % (n - h) < n - h := Nat.mod_lt _ p
  show k / (n - h) ≠ h + k % (n - h) ∧ k / (n - h) < n ∧ h + k % (n - h) < n
  omega
theorem bip_spans {n h : Nat} (h0 : 0 < h) (hn : h < n) : Spans n (bip n h) := fun f hf i hi => by
  have a : ∀ v, h ≤ v → v < n → f v = f 0 := fun v h1 h2 => (hf _ (bip_mem hn h0 h1 h2)).symm
  by_cases c : i < h
  · rw [hf _ (bip_mem hn c (Nat.le_refl h) hn)]
    exact a h (Nat.le_refl h) hn
  · exact a i (by omega) hi
theorem bip_len {n h : Nat} : (bip n h).length = h * (n - h) := by
  unfold bip
  rw [List.length_map, List.length_range]
theorem bip_get {n h i : Nat} (hi : i < h * (n - h)) : (bip n h)[i]? = some (i / (n - h), h + i % (n - h)) := by
  unfold bip
  rw [List.getElem?_map, List.getElem?_range hi]; rfl
/-- an edge (min, max) after places are called otherwise -/
def relabel (o : List Nat) (e : Pr) : Pr := (min (o.getD e.1 0) (o.getD e.2 0), max (o.getD e.1 0) (o.getD e.2 0))
def Good (n : Nat) (es : List Pr) : Prop := (∀ e ∈ es, e.1 < e.2 ∧ e.2 < n) ∧ Spans n es
theorem relabel_good {n : Nat} {o : List Nat} {ps : List Pr} (hn : 0 < n) (ho : o.Perm (List.range n)) (h1 : Edg n ps) (h2 : Spans n ps) : Good n (ps.map (relabel o)) := by
  have hl : o.length = n := by rw [ho.length_eq, List.length_range]
  have hnd : o.Nodup := ho.nodup_iff.mpr List.nodup_range
  have lt : ∀ i, i < n → o.getD i 0 < n := fun i hi => by
    have hi' : i < o.length := by omega
    rw [List.getD_eq_getElem?_getD, List.getElem?_eq_getElem hi']
    exact List.mem_range.mp (ho.mem_iff.mp (List.getElem_mem hi'))
  have inj : ∀ i j, i < n → j < n → o.getD i 0 = o.getD j 0 → i = j := fun i j hi hj e => by
    have hi' : i < o.length := by omega
    have hj' : j < o.length := by omega
    rw [List.getD_eq_getElem?_getD, List.getElem?_eq_getElem hi', List.getD_eq_getElem?_getD, List.getElem?_eq_getElem hj'] at e
    exact (List.getElem_inj hnd).mp e
  constructor
  · intro e he
    obtain ⟨p, hp, rfl⟩ := List.mem_map.mp he
    obtain ⟨k1, k2, k3⟩ := h1 p hp
    have := lt _ k2
    have := lt _ k3
    have : o.getD p.1 0 ≠ o.getD p.2 0 := fun e => k1 (inj _ _ k2 k3 e)
    show min _ _ < max _ _ ∧ max _ _ < n
    omega
  · intro f hf
    have key : ∀ i, i < n → f (o.getD i 0) = f (o.getD 0 0) := h2 (fun i => f (o.getD i 0)) fun p hp => by
      have e := hf _ (List.mem_map.mpr ⟨p, hp, rfl⟩)
      have e : f (min (o.getD p.1 0) (o.getD p.2 0)) = f (max (o.getD p.1 0) (o.getD p.2 0)) := e
      show f (o.getD p.1 0) = f (o.getD p.2 0)
      by_cases c : o.getD p.1 0 ≤ o.getD p.2 0
      · rwa [Nat.min_eq_left c, Nat.max_eq_right c] at e
      · have c : o.getD p.2 0 ≤ o.getD p.1 0 := by omega
        rw [Nat.min_eq_right c, Nat.max_eq_left c] at e
        exact e.symm
    have sur : ∀ v, v < n → ∃ i, i < n ∧ o.getD i 0 = v := fun v hv => by
      have hm : v ∈ o := ho.mem_iff.mpr (List.mem_range.mpr hv)
      obtain ⟨i, hi, e⟩ := List.getElem_of_mem hm
      refine ⟨i, by omega, ?_⟩
      rw [List.getD_eq_getElem?_getD, List.getElem?_eq_getElem hi]
      exact e
    intro v hv
    obtain ⟨i, hi, rfl⟩ := sur v hv
    obtain ⟨j, hj, e0⟩ := sur 0 hn
    have kj := key j hj
    rw [e0] at kj
    exact (key i hi).trans kj.symm
theorem Good.perm {n : Nat} {es fs : List Pr} (h : Good n es) (hp : fs.Perm es) : Good n fs :=
  ⟨fun e he => h.1 e (hp.mem_iff.mp he), fun f hf => h.2 f fun e he => hf e (hp.mem_iff.mpr he)⟩
/-- a row read in the order of a permutation -/
def pick (es : List Pr) (o : List Nat) : List Pr := o.map fun k => es.getD k (0, 0)
theorem pick_perm {es : List Pr} {o : List Nat} (ho : o.Perm (List.range es.length)) : (pick es o).Perm es := by
  refine (ho.map _).trans ?_
  have e : ((List.range es.length).map fun k => es.getD k (0, 0)) = es := by
    apply List.ext_getElem
    · rw [List.length_map, List.length_range]
    · intro i h1 h2
      rw [List.getElem_map, List.getElem_range, List.getD_eq_getElem?_getD, List.getElem?_eq_getElem h2]
      rfl
  rw [e]

def TreeAt (H0 : Hp) (L : Addr) (i : Nat) (H2 : Hp) : Prop := Same H0 H2 ∧ ∃ ps, PLst H2 L ps ∧ Tree ps ∧ ps.length = i
theorem treeAt_nil {H0 : Hp} {L : Addr} (nL : H0 L = none) : TreeAt H0 L 0 (upd H0 L (.lst [])) := ⟨same_upd nL, [], ⟨[], upd_same, True.intro⟩, Tree.nil, rfl⟩
theorem tree_push {H0 H2 : Hp} {L T : Addr} {i x : Nat} {v : V} (nL : H0 L = none) (h : TreeAt H0 L i H2) (nT : H2 T = none) (hv : v = nV x) (hx : x ≤ i) (hi : i < 1000) :
    ∃ acc, (upd H2 T (.tup [v, nV (i + 1)])) L = some (.lst acc) ∧ acc.length < sizeLine ∧ TreeAt H0 L (i + 1) (upd (upd H2 T (.tup [v, nV (i + 1)])) L (.lst (acc ++ [.ref T]))) := by
  subst hv
  obtain ⟨sm, ps, pl, tr, el⟩ := h
  obtain ⟨vs, h1, h2, h3⟩ := pl.push (a := x) (b := i + 1) (Same.refl H2) nT
  refine ⟨vs, h1, size_lt (by omega), same_mut (sm.trans (same_upd nT)) nL, _, h3, tr.app (by omega) (by omega), by rw [List.length_append, el]; rfl⟩
theorem PLst.pushV {H H1 : Hp} {L T : Addr} {ps : List Pr} {a b : Nat} {v u : V} (h : PLst H L ps) (e : Same H H1) (nT : H1 T = none) (hv : v = nV a) (hu : u = nV b) :
    ∃ vs, (upd H1 T (.tup [v, u])) L = some (.lst vs) ∧ vs.length = ps.length ∧ PLst (upd (upd H1 T (.tup [v, u])) L (.lst (vs ++ [.ref T]))) L (ps ++ [(a, b)]) := by
  subst hv; subst hu
  exact h.push e nT
theorem mod_other {n x y : Nat} (hx : x < n) (hy : y + 1 < n) : (x + 1 + y) % n ≠ x ∧ (x + 1 + y) % n < n := by
  refine ⟨?_, Nat.mod_lt _ (by omega)⟩
  by_cases h : x + 1 + y < n
  · rw [Nat.mod_eq_of_lt h]; omega
  · rw [Nat.mod_eq_sub_mod (by omega), Nat.mod_eq_of_lt (by omega)]; omega
theorem TreeAt.same {H0 H2 H3 : Hp} {L : Addr} {i : Nat} (t : TreeAt H0 L i H2) (e : Same H2 H3) : TreeAt H0 L i H3 := by
  obtain ⟨sm, ps, pl, r⟩ := t
  exact ⟨sm.trans e, ps, pl.same e, r⟩
theorem PLst.size {H : Hp} {a : Addr} {ps : List Pr} (h : PLst H a ps) : ∃ vs, H a = some (.lst vs) ∧ vs.length = ps.length := by
  obtain ⟨vs, h1, h2⟩ := h
  exact ⟨vs, h1, h2.len⟩
section
variable {P : Program} {w : World} {K : PySem.W.Frag} {mg : Str → Option Value} {base : Heap}
abbrev n_law_graph : List Str := ["pool", "most", "genus", "n", "kind", "more", "pairs", "half", "first", "turn", "one", "other", "order", "edges", "k", "u", "v"]
abbrev p_law_graph : List Str := ["pool", "most", "genus"]
theorem sc_law_graph : FnScope n_law_graph p_law_graph (defScope s_law_graph) := ⟨rfl, rfl, rfl, by decide +kernel, rfl, by decide +kernel, by decide +kernel⟩
/-- a graph drawn: 1 to most places, edges by which all are together, of a genus of at most a number -/
def spGraph : Sp := fun vs H Q _ => ∃ (a : Addr) (most genus : Int), vs = [.ref a, .int most, .int genus] ∧ PoolAt H a ∧ 1 ≤ most ∧ most ≤ 64 ∧ 0 ≤ genus ∧ genus ≤ 337 ∧
  ∀ (H' : Hp) (t l : Addr) (n : Nat) (es : List Pr), Same H H' → H' t = some (.tup [nV n, .ref l]) → H l = none → PLst H' l es → 1 ≤ n → (n : Int) ≤ most → Good n es → es.length + 1 ≤ n + genus → Q (.ref t) H'
/-- what stands behind the choice of a kind -/
def MidG (H : Hp) (a : Addr) (most genus kind : Int) (n : Nat) (σ : L2.St) (H' : Hp) : Prop := ∃ (pp : Addr) (mr : Int) (ps : List Pr) (yh : Option V),
  σ = [some (.ref a), some (.int most), some (.int genus), some (nV n), some (.int kind), some (.int mr), some (.ref pp), yh, none, none, none, none, none, none, none, none, none] ∧
  Same H H' ∧ H pp = none ∧ PLst H' pp ps ∧ 0 ≤ mr ∧ (ps.length : Int) + mr + 1 ≤ n + genus ∧ 1 ≤ ps.length ∧ Edg n ps ∧ Spans n ps
theorem midG_tree {H0 H H1 : Hp} {L a : Addr} {n : Nat} {most genus kind mr : Int} {yh : Option V} (t : TreeAt H L (n - 1) H1) (sm0 : Same H0 H) (nL : H L = none) (hn : 2 ≤ n) (x0 : 0 ≤ mr) (x1 : mr ≤ genus) :
    MidG H0 a most genus kind n [some (.ref a), some (.int most), some (.int genus), some (nV n), some (.int kind), some (.int mr), some (.ref L), yh, none, none, none, none, none, none, none, none, none] H1 := by
  obtain ⟨sm, ps, pl, tr, el⟩ := t
  have e : ps.length + 1 = n := by omega
  exact ⟨L, mr, ps, yh, rfl, sm0.trans sm, sm0.free nL, pl, x0, by omega, by omega, e ▸ tr.edg, e ▸ tr.spans⟩
theorem ok_graph (D : DefAt K mg "_law_graph" "_law_graph" s_law_graph) (B : Bt mg) (h_law_take : Has P w K mg base CX0 2 "_law_take" p_law_take spTake) (h_law_pick : Has P w K mg base CX0 3 "_law_pick" p_law_pick (spPick K))
    (h_law_order : Has P w K mg base CX0 3 "_law_order" p_law_order spOrder) (h_law_all_pairs : Has P w K mg base CX0 1 "_law_all_pairs" p_law_all_pairs spAllPairs) : Has P w K mg base CX0 4 "_law_graph" p_law_graph spGraph := by
  refine has_of D sc_law_graph (fun _ _ _ _ _ _ us hl => match us, hl with | [_, _, _], _ => rfl) (fun vs H Q E h => ?_) (fun f cdv A outer s H vs Q E hr h => ?_)
  · obtain ⟨a, most, genus, rfl, _⟩ := h
    rfl
  · obtain ⟨a, most, genus, rfl, hp, m1, m2, g1, g2, q⟩ := h
    refine ⟨_, (Evl.pss_cut (ps_set (i := 3) sc_law_graph.nd rfl (.inr rfl) (pe_op op_add pe_int (pe_h h_law_take hr pass0 (pa_cons (pv 0) (pa_cons (pv 1) pa_nil)))))
  (pss_cons (ps_set (i := 4) sc_law_graph.nd rfl (.inl rfl) (pe_h h_law_take hr pass0 (pa_cons (pv 0) (pa_cons pe_int pa_nil))))
  (pss_cons (ps_set (i := 5) sc_law_graph.nd rfl (.inl rfl) (pe_h h_law_take hr pass0 (pa_cons (pv 0) (pa_cons (pe_op op_add (pv 2) pe_int) pa_nil))))
  (pss_cons (ps_if (pt_cmpR op_eq (pv 3) pe_int (nomark _)) (pss_one (ps_ret (pe_tup (pa_cons pe_int (pa_cons (pe_lst pa_nil) pa_nil))))) pss_nil)
  (pss_cons (ps_setLc (i := 6) (own := [("k", 14)]) (g := gName 14) (tt := tYes) rfl sc_law_graph.nd rfl rfl (sw_true rfl rfl rfl (by decide +kernel)) (pi_range2 rfl B.range (pa_cons pe_int (pa_cons (pv 3) pa_nil))) (blkOk_by (N := n_law_graph) (sc := defScope s_law_graph) (by decide +kernel)) (fun _ _ _ _ _ => (pg_name (i := 14) sc_law_graph.nd rfl (.inl rfl))) (fun _ _ _ _ _ => pts_nil) (fun _ _ _ _ _ => (pe_tup (pa_cons (pe_h h_law_take hr pass0 (pa_cons (pv 0) (pa_cons (pv 14) pa_nil))) (pa_cons (pv 14) pa_nil)))))
  (Evl.pss_cut (ps_if (pt_cmpR op_eq (pv 4) pe_int (nomark _)) (pss_one (ps_setLc (i := 6) (own := [("k", 14)]) (g := gName 14) (tt := tYes) rfl sc_law_graph.nd rfl rfl (sw_true rfl rfl rfl (by decide +kernel)) (pi_range2 rfl B.range (pa_cons pe_int (pa_cons (pv 3) pa_nil))) (blkOk_by (N := n_law_graph) (sc := defScope s_law_graph) (by decide +kernel)) (fun _ _ _ _ _ => (pg_name (i := 14) sc_law_graph.nd rfl (.inl rfl))) (fun _ _ _ _ _ => pts_nil) (fun _ _ _ _ _ => (pe_tup (pa_cons (pe_op op_sub (pv 14) pe_int) (pa_cons (pv 14) pa_nil)))))) (pss_one (ps_if (pt_cmpR op_eq (pv 4) pe_int (nomark _)) (pss_one (ps_setLc (i := 6) (own := [("k", 14)]) (g := gName 14) (tt := tYes) rfl sc_law_graph.nd rfl rfl (sw_true rfl rfl rfl (by decide +kernel)) (pi_range2 rfl B.range (pa_cons pe_int (pa_cons (pv 3) pa_nil))) (blkOk_by (N := n_law_graph) (sc := defScope s_law_graph) (by decide +kernel)) (fun _ _ _ _ _ => (pg_name (i := 14) sc_law_graph.nd rfl (.inl rfl))) (fun _ _ _ _ _ => pts_nil) (fun _ _ _ _ _ => (pe_tup (pa_cons pe_int (pa_cons (pv 14) pa_nil)))))) (pss_one (ps_if (PW.pt (pw_and (pt_cmpR op_eq (pv 4) pe_int (nomark _)) (pw_and1 (pt_cmpR op_ge (pv 2) pe_int (nomark _))))) (pss_cons (ps_set (i := 6) sc_law_graph.nd rfl (.inl rfl) (pe_op op_cat (pe_lc (own := [("k", 14)]) (g := gName 14) (tt := tYes) rfl sc_law_graph.nd (pi_range2 rfl B.range (pa_cons pe_int (pa_cons (pv 3) pa_nil))) (blkOk_by (N := n_law_graph) (sc := defScope s_law_graph) (by decide +kernel)) (fun _ _ _ _ _ => (pg_name (i := 14) sc_law_graph.nd rfl (.inl rfl))) (fun _ _ _ _ _ => pts_nil) (fun _ _ _ _ _ => (pe_tup (pa_cons (pe_op op_sub (pv 14) pe_int) (pa_cons (pv 14) pa_nil))))) (pe_lst (pa_cons (pe_tup (pa_cons pe_int (pa_cons (pe_op op_sub (pv 3) pe_int) pa_nil))) pa_nil))))
  (pss_one (ps_set (i := 5) sc_law_graph.nd rfl (.inl rfl) (pe_callB (call_min2 rfl) rfl B.min (by decide +kernel) (pa_cons (pv 5) (pa_cons (pe_op op_sub (pv 2) pe_int) pa_nil)))))) (pss_one (ps_if (PW.pt (pw_and (pt_cmpR op_eq (pv 4) pe_int (nomark _)) (pw_and1 (pt_cmpR op_le (pe_callTy call_int1 rfl B.int (by decide +kernel) (pa_cons (pe_op op_fdiv (pe_op op_mul (pe_op op_sub (pv 3) pe_int) (pe_op op_sub (pv 3) pe_int)) pe_int) pa_nil)) (pv 2) (nomark _))))) (pss_one (ps_par (i := 6) (j := 5) rfl sc_law_graph.nd rfl rfl (by decide) rfl rfl (pa_cons (pe_h h_law_all_pairs hr pass0 (pa_cons (pv 3) pa_nil)) (pa_cons pe_int pa_nil)) rfl)) (pss_one (ps_if (PW.pt (pw_and (pt_cmpR op_eq (pv 4) pe_int (nomark _)) (pw_and (pt_cmpR op_gt (pv 3) pe_int (nomark _)) (pw_and1 (pt_cmpR op_le (pe_op op_add (pe_op op_sub (pe_op op_mul (pe_callTy call_int1 rfl B.int (by decide +kernel) (pa_cons (pe_op op_fdiv (pv 3) pe_int) pa_nil)) (pe_op op_sub (pv 3) (pe_callTy call_int1 rfl B.int (by decide +kernel) (pa_cons (pe_op op_fdiv (pv 3) pe_int) pa_nil)))) (pv 3)) pe_int) (pv 2) (nomark _)))))) (pss_cons (ps_set (i := 7) sc_law_graph.nd rfl (.inr rfl) (pe_callTy call_int1 rfl B.int (by decide +kernel) (pa_cons (pe_op op_fdiv (pv 3) pe_int) pa_nil)))
  (pss_one (ps_par (i := 6) (j := 5) rfl sc_law_graph.nd rfl rfl (by decide) rfl rfl (pa_cons (pe_lc (own := [("k", 14)]) (g := gName 14) (tt := tYes) rfl sc_law_graph.nd (pi_range1 rfl B.range (pa_cons (pe_op op_mul (pv 7) (pe_op op_sub (pv 3) (pv 7))) pa_nil)) (blkOk_by (N := n_law_graph) (sc := defScope s_law_graph) (by decide +kernel)) (fun _ _ _ _ _ => (pg_name (i := 14) sc_law_graph.nd rfl (.inl rfl))) (fun _ _ _ _ _ => pts_nil) (fun _ _ _ _ _ => (pe_tup (pa_cons (pe_callTy call_int1 rfl B.int (by decide +kernel) (pa_cons (pe_op op_fdiv (pv 14) (pe_op op_sub (pv 3) (pv 7))) pa_nil)) (pa_cons (pe_op op_add (pv 7) (pe_op op_mod (pe_callTy call_int1 rfl B.int (by decide +kernel) (pa_cons (pv 14) pa_nil)) (pe_op op_sub (pv 3) (pv 7)))) pa_nil))))) (pa_cons pe_int pa_nil)) rfl))) (pss_one (ps_if (pt_cmpR op_eq (pv 4) pe_int (nomark _)) (pss_one (ps_setLc (i := 6) (own := [("k", 14)]) (g := gName 14) (tt := tYes) rfl sc_law_graph.nd rfl rfl (sw_true rfl rfl rfl (by decide +kernel)) (pi_range2 rfl B.range (pa_cons pe_int (pa_cons (pv 3) pa_nil))) (blkOk_by (N := n_law_graph) (sc := defScope s_law_graph) (by decide +kernel)) (fun _ _ _ _ _ => (pg_name (i := 14) sc_law_graph.nd rfl (.inl rfl))) (fun _ _ _ _ _ => pts_nil) (fun _ _ _ _ _ => (pe_tup (pa_cons (pe_h h_law_pick hr pass0 (pa_cons (pv 0) (pa_cons (pe_lst (pa_cons pe_int (pa_cons (pe_op op_sub (pv 14) pe_int) pa_nil))) pa_nil))) (pa_cons (pv 14) pa_nil)))))) pss_nil)))))))))))
  (pss_cons (ps_set (i := 8) sc_law_graph.nd rfl (.inl rfl) (pe_ix (ixL (K := K) rfl) (pv 6) (pe_h h_law_take hr pass0 (pa_cons (pv 0) (pa_cons (pe_callB (lenK (K := K) rfl) rfl B.len PySem.boot_len (pa_cons (pv 6) pa_nil)) pa_nil))) (fun _ _ => rfl)))
  (Evl.pss_cut (ps_for PassesOwn.never rfl (pi_range1 rfl B.range (pa_cons (pv 5) pa_nil)) (pg_name (i := 9) sc_law_graph.nd rfl (.inl rfl)) (pss_cons (ps_set (i := 10) sc_law_graph.nd rfl (.inl rfl) (pe_h h_law_take hr pass0 (pa_cons (pv 0) (pa_cons (pv 3) pa_nil))))
  (pss_cons (ps_set (i := 11) sc_law_graph.nd rfl (.inl rfl) (pe_op op_mod (pe_callTy call_int1 rfl B.int (by decide +kernel) (pa_cons (pe_op op_add (pe_op op_add (pv 10) pe_int) (pe_h h_law_take hr pass0 (pa_cons (pv 0) (pa_cons (pe_op op_sub (pv 3) pe_int) pa_nil)))) pa_nil)) (pv 3)))
  (pss_one (ps_expr (pe_bm PySem.F.plainAttrs_list PySem.F.slot_list_append PySem.F.type_list_append mt_append (pv 6) (pa_cons (pe_ifExp (pt_cmpR op_eq (pe_h h_law_take hr pass0 (pa_cons (pv 0) (pa_cons pe_int pa_nil))) pe_int (nomark _)) (pv 8) (pe_tup (pa_cons (pv 10) (pa_cons (pv 11) pa_nil)))) pa_nil)))))))
  (pss_cons (ps_set (i := 12) sc_law_graph.nd rfl (.inr rfl) (pe_h h_law_order hr pass0 (pa_cons (pv 0) (pa_cons (pv 3) pa_nil))))
  (pss_cons (ps_set (i := 13) sc_law_graph.nd rfl (.inr rfl) (pe_lc (own := [("u", 15), ("v", 16)]) (g := _) (tt := tYes) rfl sc_law_graph.nd (piL (K := K) rfl (pv 6)) (blkOk_by (N := n_law_graph) (sc := defScope s_law_graph) (by decide +kernel)) (fun _ _ _ _ _ => (pgT (K := K) (n := 2) rfl rfl (pgs_cons (pg_name (i := 15) sc_law_graph.nd rfl (.inl rfl)) (pgs_cons (pg_name (i := 16) sc_law_graph.nd rfl (.inl rfl)) pgs_nil)))) (fun _ _ _ _ _ => pts_nil) (fun _ _ _ _ _ => (pe_tup (pa_cons (pe_callB (call_min2 rfl) rfl B.min (by decide +kernel) (pa_cons (pe_ix (ixT (K := K) rfl) (pv 12) (pv 15) (fun _ _ => rfl)) (pa_cons (pe_ix (ixT (K := K) rfl) (pv 12) (pv 16) (fun _ _ => rfl)) pa_nil))) (pa_cons (pe_callB (call_max2 rfl) rfl B.max (by decide +kernel) (pa_cons (pe_ix (ixT (K := K) rfl) (pv 12) (pv 15) (fun _ _ => rfl)) (pa_cons (pe_ix (ixT (K := K) rfl) (pv 12) (pv 16) (fun _ _ => rfl)) pa_nil))) pa_nil))))))
  (pss_one (ps_ret (pe_tup (pa_cons (pv 3) (pa_cons (pe_lc (own := [("k", 14)]) (g := gName 14) (tt := tYes) rfl sc_law_graph.nd (piT (K := K) rfl (pe_h h_law_order hr pass0 (pa_cons (pv 0) (pa_cons (pe_callB (lenK (K := K) rfl) rfl B.len PySem.boot_len (pa_cons (pv 13) pa_nil)) pa_nil)))) (blkOk_by (N := n_law_graph) (sc := defScope s_law_graph) (by decide +kernel)) (fun _ _ _ _ _ => (pg_name (i := 14) sc_law_graph.nd rfl (.inl rfl))) (fun _ _ _ _ _ => pts_nil) (fun _ _ _ _ _ => (pe_ix (ixL (K := K) rfl) (pv 13) (pv 14) (fun _ _ => rfl)))) pa_nil))))))))))))))), ?_⟩
    refine ⟨fun σ' H' => H' = H ∧ ∃ n : Nat, 1 ≤ n ∧ (n : Int) ≤ most ∧ σ' = [some (.ref a), some (.int most), some (.int genus), some (nV n), none, none, none, none, none, none, none, none, none, none, none, none, none], ?_, ?_⟩
    · refine ⟨_, rfl, _, rfl, a, _, rfl, hp, by omega, by omega, fun r r0 r1 => ⟨_, _, rfl, rfl, rfl, (1 + r).toNat, by omega, by omega, ?_⟩⟩
      have e : V.int (1 + r) = nV (1 + r).toNat := congrArg V.int (by omega)
      show [_, _, _, some (V.int (1 + r)), _, _, _, _, _, _, _, _, _, _, _, _, _] = _
      rw [e]
    rintro σ' H' ⟨rfl, n, n1, n2, rfl⟩
    refine ⟨_, rfl, a, _, rfl, hp, by decide, by decide, fun kind k0 k1 => ?_⟩
    refine ⟨_, rfl, _, rfl, _, _, rfl, rfl, a, _, rfl, hp, by omega, by omega, fun more x0 x1 => ?_⟩
    refine ⟨_, rfl, rfl, _, rfl, ifD (fun e => ?_) (fun e => ?_)⟩
    · have e : (n : Int) = 1 := V.int.inj e
      have e : n = 1 := by omega
      subst e
      refine ⟨Nat.zero_le _, fun l nl => ⟨by show 2 ≤ sizeLine; decide, fun t nt => ?_⟩⟩
      refine q _ t l 1 [] ((same_upd nl).trans (same_upd nt)) upd_same nl ⟨[], ?_, True.intro⟩ n1 n2 ⟨fun e he => (nomatch he), fun f _ i hi => ?_⟩ (by simp; omega)
      · have : l ≠ t := fun e => by rw [← e, upd_same] at nt; cases nt
        rw [upd_ne this, upd_same]
      · have : i = 0 := by omega
        rw [this]
    · have n3 : 2 ≤ n := by
        have : n ≠ 1 := fun h => e (by rw [h]; rfl)
        omega
      have ek : ∀ i : Nat, V.int (1 + (i : Int)) = nV (i + 1) := fun i => congrArg V.int (by omega)
      have eN : ((n : Int) - 1).toNat = n - 1 := by omega
      -- pairs = ..
      refine ⟨_, rfl, 1, _, rfl, ⟨by omega, by omega, by omega, by omega⟩, fun L nL => ?_⟩
      refine lc_range (lo := 1) (n := ((n : Int) - 1).toNat) (TreeAt H' L) (treeAt_nil nL) ?_ ?_
      · rintro i H2 hi t
        rw [ek i]
        refine ⟨rfl, yes_ ?_⟩
        refine ⟨_, rfl, _, rfl, a, _, rfl, hp.same t.1, by omega, by omega, fun r r0 r1 => ⟨_, rfl, by show 2 ≤ sizeLine; decide, fun T nT => ?_⟩⟩
        obtain ⟨x, rfl⟩ : ∃ x : Nat, r = x := ⟨r.toNat, by omega⟩
        exact tree_push nL t nT rfl (by omega) (by omega)
      intro H1 t1
      rw [eN] at t1
      have hp1 : PoolAt H1 a := hp.same t1.1
      refine ⟨MidG H' a most genus kind n, ?_, ?_⟩
      · -- the kinds
        refine ⟨_, rfl, rfl, _, rfl, ifD (fun _ => ?_) (fun _ => ?_)⟩
        · refine ⟨_, rfl, 1, _, rfl, ⟨by omega, by omega, by omega, by omega⟩, fun L2 nL2 => ?_⟩
          refine lc_range (lo := 1) (n := ((n : Int) - 1).toNat) (TreeAt H1 L2) (treeAt_nil nL2) ?_ ?_
          · rintro i H2 hi t
            rw [ek i]
            refine ⟨rfl, yes_ ?_⟩
            refine ⟨_, rfl, _, _, rfl, rfl, _, rfl, by show 2 ≤ sizeLine; decide, fun T nT => ?_⟩
            exact tree_push nL2 t nT (congrArg V.int (by omega : ((i + 1 : Nat) : Int) - 1 = (i : Int))) (Nat.le_refl _) (by omega)
          · intro H2 t
            rw [eN] at t
            exact midG_tree t t1.1 nL2 n3 x0 (by omega)
        refine ⟨_, rfl, rfl, _, rfl, ifD (fun _ => ?_) (fun _ => ?_)⟩
        · refine ⟨_, rfl, 1, _, rfl, ⟨by omega, by omega, by omega, by omega⟩, fun L2 nL2 => ?_⟩
          refine lc_range (lo := 1) (n := ((n : Int) - 1).toNat) (TreeAt H1 L2) (treeAt_nil nL2) ?_ ?_
          · rintro i H2 hi t
            rw [ek i]
            refine ⟨rfl, yes_ ?_⟩
            refine ⟨_, rfl, by show 2 ≤ sizeLine; decide, fun T nT => ?_⟩
            exact tree_push (x := 0) nL2 t nT rfl (Nat.zero_le _) (by omega)
          · intro H2 t
            rw [eN] at t
            exact midG_tree t t1.1 nL2 n3 x0 (by omega)
        -- elif kind == 4 and genus >= 1
        refine st_ite (ans_and2 (fun Q q => ⟨_, rfl, rfl, _, rfl, q⟩) (fun Q q => ⟨_, rfl, _, _, rfl, rfl, _, rfl, q⟩)) (fun hc => ?_) (fun _ => ?_)
        · have hg : (1 : Int) ≤ genus := of_decide_eq_true (Bool.and_eq_true_iff.mp hc).2
          refine ⟨_, rfl, 1, _, rfl, ⟨by omega, by omega, by omega, by omega⟩, fun L2 nL2 => ?_⟩
          refine lc_range (lo := 1) (n := ((n : Int) - 1).toNat) (TreeAt H1 L2) (treeAt_nil nL2) ?_ ?_
          · rintro i H2 hi t
            rw [ek i]
            refine ⟨rfl, yes_ ?_⟩
            refine ⟨_, rfl, _, _, rfl, rfl, _, rfl, by show 2 ≤ sizeLine; decide, fun T nT => ?_⟩
            exact tree_push nL2 t nT (congrArg V.int (by omega : ((i + 1 : Nat) : Int) - 1 = (i : Int))) (Nat.le_refl _) (by omega)
          · intro H2 t
            rw [eN] at t
            obtain ⟨sm2, ps, ⟨vs, pl1, pl2⟩, tr, el⟩ := t
            refine ⟨_, rfl, _, _, rfl, rfl, by show 2 ≤ sizeLine; decide, fun T nT => ⟨by show 1 ≤ sizeLine; decide, fun R nR => ?_⟩⟩
            have lvs := pl2.len
            have s3 : Same H2 (upd H2 T (.tup [.int 0, .int ((n : Int) - 1)])) := same_upd nT
            have s4 : Same H2 (upd (upd H2 T (.tup [.int 0, .int ((n : Int) - 1)])) R (.lst [.ref T])) := s3.trans (same_upd nR)
            have hT : (upd (upd H2 T (.tup [.int 0, .int ((n : Int) - 1)])) R (.lst [.ref T])) T = some (.tup [nV 0, nV (n - 1)]) := by
              have : T ≠ R := fun e => by rw [← e, upd_same] at nR; cases nR
              rw [upd_ne this, upd_same]
              have e : V.int ((n : Int) - 1) = nV (n - 1) := congrArg V.int (by omega)
              rw [e]; rfl
            refine ⟨L2, R, vs, [.ref T], rfl, rfl, s4 _ _ pl1, upd_same, size_le (by show vs.length + 1 ≤ 100000; omega), fun pp np => ?_⟩
            refine ⟨_, rfl, _, rfl, _, _, rfl, rfl, _, _, rfl, ?_⟩
            have e : ps.length + 1 = n := by omega
            refine ⟨pp, _, ps ++ [(0, n - 1)], none, rfl, ((t1.1.trans sm2).trans s4).trans (same_upd np), ((t1.1.trans sm2).trans s4).free np, ⟨_, upd_same, Prs.same (same_upd np) (Prs.app (pl2.same s4) ⟨⟨T, rfl, hT⟩, True.intro⟩)⟩, ?_, ?_, ?_, (e ▸ tr.edg : Edg n ps).app ?_, (e ▸ tr.spans : Spans n ps).app⟩
            · show 0 ≤ if genus - 1 < more then genus - 1 else more
              split <;> omega
            · rw [List.length_append]
              show ((ps.length + 1 : Nat) : Int) + (if genus - 1 < more then genus - 1 else more) + 1 ≤ _
              split <;> omega
            · rw [List.length_append]; show 1 ≤ ps.length + 1; omega
            · intro e he
              rw [List.mem_singleton.mp he]
              show 0 ≠ n - 1 ∧ 0 < n ∧ n - 1 < n
              omega
        -- elif kind == 5 and ..
        refine st_ite (ans_and2 (fun Q q => ⟨_, rfl, rfl, _, rfl, q⟩) (fun Q q => ⟨_, rfl, _, _, rfl, rfl, _, rfl, _, _, rfl, rfl, _, _, rfl, rfl, .inl ⟨by omega, by omega⟩, _, _, rfl, rfl, ⟨by decide, by decide⟩, .inl ⟨_, rfl, _, rfl, _, _, rfl, rfl, _, rfl, q⟩⟩)) (fun hc => ?_) (fun _ => ?_)
        · have hg : ((n : Int) - 1) * ((n : Int) - 2) / 2 ≤ genus := of_decide_eq_true (Bool.and_eq_true_iff.mp hc).2
          refine ⟨_, rfl, n, rfl, by omega, fun H2 pp sm2 np pl => ⟨_, _, rfl, ?_⟩⟩
          refine ⟨pp, 0, allPairs n, none, rfl, t1.1.trans sm2, t1.1.free np, pl, Int.le_refl 0, ?_, ?_, allPairs_edg, allPairs_spans⟩
          · have := allPairs_len2 n
            have e1 : ((n : Int) - 1) * ((n : Int) - 2) = (n : Int) * ((n : Int) - 1) - 2 * ((n : Int) - 1) := by
              rw [Int.sub_mul, Int.mul_sub, Int.mul_sub, Int.mul_sub]; omega
            have e2 : (n : Int) * ((n : Int) - 1) = 2 * ((allPairs n).length : Int) := by
              have : ((n * (n - 1) : Nat) : Int) = ((2 * (allPairs n).length : Nat) : Int) := by rw [this]
              rw [Int.natCast_mul, Int.natCast_mul] at this
              have e3 : ((n - 1 : Nat) : Int) = (n : Int) - 1 := by omega
              rw [e3] at this
              exact this
            rw [e1, e2] at hg
            omega
          · have := allPairs_len2 n
            have h2 : 2 * 1 ≤ n * (n - 1) := Nat.mul_le_mul n3 (by omega)
            omega
        -- elif kind == 6 and n > 3 and ..
        have eh : ((n : Int) / 2) = ((n / 2 : Nat) : Int) := rfl
        have ed : ((n : Int) - ((n / 2 : Nat) : Int)) = ((n - n / 2 : Nat) : Int) := by omega
        refine st_ite (ans_and2 (fun Q q => ⟨_, rfl, rfl, _, rfl, q⟩) (ans_and2 (fun Q q => ⟨_, rfl, _, _, rfl, rfl, _, rfl, q⟩)
          (fun Q q => ⟨_, rfl, _, _, rfl, rfl, ⟨by decide, by decide⟩, .inl ⟨_, rfl, _, rfl, _, rfl, _, _, rfl, rfl, ⟨by decide, by decide⟩, .inl ⟨_, rfl, _, _, rfl, rfl, _, _, rfl, rfl, .inl ⟨by omega, by omega⟩, _, rfl, _, _, rfl, rfl, _, _, rfl, rfl, _, rfl, _, _, rfl, rfl, _, rfl, q⟩⟩⟩))) (fun hc => ?_) (fun _ => ?_)
        · obtain ⟨_, hc⟩ := Bool.and_eq_true_iff.mp hc
          obtain ⟨hn3, hc⟩ := Bool.and_eq_true_iff.mp hc
          have hn3 : (3 : Int) < n := of_decide_eq_true hn3
          have hg : ((n : Int) / 2) * ((n : Int) - (n : Int) / 2) - n + 1 ≤ genus := of_decide_eq_true hc
          rw [eh, ed, ← Int.natCast_mul] at hg
          have hm : ((n / 2 * (n - n / 2) : Nat) : Int) ≤ 4096 := by
            have : n / 2 * (n - n / 2) ≤ 64 * 64 := Nat.mul_le_mul (by omega) (by omega)
            omega
          refine ⟨_, rfl, _, _, rfl, rfl, ⟨by decide, by decide⟩, .inl ⟨_, rfl, ?_⟩⟩
          have em : ((n / 2 : Nat) : Int) * ((n : Int) - ((n / 2 : Nat) : Int)) = ((n / 2 * (n - n / 2) : Nat) : Int) := by rw [ed, Int.natCast_mul]
          refine ⟨_, rfl, _, rfl, _, rfl, _, _, rfl, rfl, _, _, rfl, rfl, .inl ⟨by omega, by omega⟩, ((n / 2 : Nat) : Int) * ((n : Int) - ((n / 2 : Nat) : Int)), rfl, by omega, by omega, fun L2 nL2 => ?_⟩
          refine lc_range (lo := 0) (n := (((n / 2 : Nat) : Int) * ((n : Int) - ((n / 2 : Nat) : Int))).toNat) (fun i H2 => Same H1 H2 ∧ PLst H2 L2 ((bip n (n / 2)).take i)) ⟨same_upd nL2, [], upd_same, by rw [List.take_zero]; exact True.intro⟩ ?_ ?_
          · rintro i H2 hi ⟨sm2, pl2⟩
            have hi : i < n / 2 * (n - n / 2) := by omega
            have ei : V.int (0 + (i : Int)) = nV i := by rw [Int.zero_add]
            rw [ei]
            refine ⟨rfl, yes_ ?_⟩
            refine ⟨_, rfl, _, rfl, _, rfl, _, _, rfl, rfl, _, _, rfl, rfl, ⟨by omega, by omega⟩, .inl ⟨_, rfl, ?_⟩⟩
            refine ⟨_, rfl, _, rfl, .inl ⟨_, rfl, _, rfl, _, rfl, _, _, rfl, rfl, _, _, rfl, rfl, ?_, _, _, rfl, rfl, by show 2 ≤ sizeLine; decide, fun T nT => ?_⟩⟩
            · show (0 : Int) < (n : Int) - ((n / 2 : Nat) : Int)
              omega
            have v1 : V.int ((i : Int) / ((n : Int) - ((n / 2 : Nat) : Int))) = nV (i / (n - n / 2)) := by rw [ed]; rfl
            have v2 : V.int (((n / 2 : Nat) : Int) + (i : Int) % ((n : Int) - ((n / 2 : Nat) : Int))) = nV (n / 2 + i % (n - n / 2)) := by rw [ed]; rfl
            obtain ⟨vs, h1, h2, h3⟩ := pl2.pushV (Same.refl H2) nT v1 v2
            refine ⟨vs, h1, size_lt (by rw [h2, List.length_take]; omega), same_mut (sm2.trans (same_upd nT)) nL2, ?_⟩
            rw [List.take_add_one, bip_get hi]
            exact h3
          · rintro H2 ⟨sm2, pl2⟩
            rw [em, Int.toNat_natCast, List.take_of_length_le (by rw [bip_len]; omega)] at pl2
            refine ⟨_, _, rfl, ?_⟩
            refine ⟨L2, 0, bip n (n / 2), _, rfl, t1.1.trans sm2, t1.1.free nL2, pl2, Int.le_refl 0, ?_, ?_, bip_edg (by omega), bip_spans (by omega) (by omega)⟩
            · rw [bip_len]; omega
            · rw [bip_len]
              have : 1 * 1 ≤ n / 2 * (n - n / 2) := Nat.mul_le_mul (by omega) (by omega)
              omega
        -- elif kind == 7
        refine ⟨_, rfl, rfl, _, rfl, ifD (fun _ => ?_) (fun _ => ?_)⟩
        · refine ⟨_, rfl, 1, _, rfl, ⟨by omega, by omega, by omega, by omega⟩, fun L2 nL2 => ?_⟩
          refine lc_range (lo := 1) (n := ((n : Int) - 1).toNat) (TreeAt H1 L2) (treeAt_nil nL2) ?_ ?_
          · rintro i H2 hi t
            rw [ek i]
            refine ⟨rfl, yes_ ?_⟩
            refine ⟨_, rfl, _, rfl, _, _, rfl, rfl, by show 2 ≤ sizeLine; decide, fun R nR => ?_⟩
            have sR := same_upd (o := .lst [.int 0, .int (((i + 1 : Nat) : Int) - 1)]) nR
            refine ⟨a, R, _, rfl, (hp1.same t.1).same sR, SqL.of upd_same, by show 0 < 2; decide, by show 2 < 1000000000; decide, fun j v hj => ?_⟩
            refine ⟨_, rfl, by show 2 ≤ sizeLine; decide, fun T nT => ?_⟩
            match j, hj with
            | 0, hj => exact tree_push nL2 (t.same sR) nT (Option.some.inj hj).symm (Nat.zero_le _) (by omega)
            | 1, hj => exact tree_push nL2 (t.same sR) nT ((Option.some.inj hj).symm.trans (congrArg V.int (by omega : ((i + 1 : Nat) : Int) - 1 = (i : Int)))) (Nat.le_refl _) (by omega)
            | j + 2, hj => exact nomatch hj
          · intro H2 t
            rw [eN] at t
            exact midG_tree t t1.1 nL2 n3 x0 (by omega)
        · exact midG_tree t1 (Same.refl _) nL n3 x0 (by omega)
      · rintro σ2 H2 ⟨pp, mr, ps, yh, rfl, sm2, npp, pl, mr0, hlen, l1, ed, sp⟩
        obtain ⟨vs, hv1, hv2⟩ := pl.size
        refine ⟨_, rfl, _, rfl, _, rfl, _, ps.length, rfl, .inl ⟨_, SqL.of hv1, hv2.symm⟩, ?_⟩
        refine ⟨a, _, rfl, hp.same sm2, by omega, by omega, fun r r0 r1 => ?_⟩
        have hr2 : r.toNat < ps.length := by omega
        obtain ⟨vs', hv3, hv4⟩ := pl
        obtain ⟨t, et, ht⟩ := Prs.get hv4 hr2
        refine ⟨_, _, r, _, rfl, rfl, SqL.of hv3, atI_int r0 et, ?_⟩
        obtain ⟨ne, ht1, ht2⟩ := ed _ (List.getElem_mem hr2)
        generalize ps[r.toNat] = e0 at ht ne ht1 ht2
        -- for turn in range(more)
        refine ⟨fun σ3 H3 => ∃ (y9 y10 y11 : Option V) (qs : List Pr), σ3 = [some (.ref a), some (.int most), some (.int genus), some (nV n), some (.int kind), some (.int mr), some (.ref pp), yh, some (.ref t), y9, y10, y11, none, none, none, none, none] ∧
          Same H' H3 ∧ PLst H3 pp qs ∧ (qs.length : Int) + 1 ≤ n + genus ∧ 1 ≤ qs.length ∧ Edg n qs ∧ Spans n qs, ?_, ?_⟩
        · refine ⟨_, rfl, mr, rfl, by omega, by omega, for_range (lo := 0) (n := mr.toNat) (fun i σ3 H3 => ∃ (y9 y10 y11 : Option V) (qs : List Pr), σ3 = [some (.ref a), some (.int most), some (.int genus), some (nV n), some (.int kind), some (.int mr), some (.ref pp), yh, some (.ref t), y9, y10, y11, none, none, none, none, none] ∧
            Same H' H3 ∧ PLst H3 pp qs ∧ qs.length = ps.length + i ∧ Edg n qs ∧ Spans n qs ∧ H3 t = some (.tup [nV e0.1, nV e0.2])) ?_ ?_ ?_⟩
          · exact ⟨none, none, none, ps, rfl, sm2, ⟨vs', hv3, hv4⟩, rfl, ed, sp, ht⟩
          · rintro i σ3 H3 hi ⟨y9, y10, y11, qs, rfl, sm3, pl3, lq, edq, spq, ht3⟩
            have hp3 : PoolAt H3 a := hp.same sm3
            refine ⟨_, rfl, _, rfl, a, _, rfl, hp3, by omega, by omega, fun x x0' x1' => ?_⟩
            obtain ⟨x, rfl⟩ : ∃ x' : Nat, x = x' := ⟨x.toNat, by omega⟩
            refine ⟨_, rfl, _, _, rfl, rfl, _, rfl, _, rfl, _, _, rfl, rfl, a, _, rfl, hp3, by omega, by omega, fun y y0' y1' => ?_⟩
            obtain ⟨y, rfl⟩ : ∃ y' : Nat, y = y' := ⟨y.toNat, by omega⟩
            refine ⟨_, _, rfl, rfl, .inl ⟨_, rfl, _, rfl, _, _, rfl, rfl, by show (0 : Int) < n; omega, ?_⟩⟩
            obtain ⟨mo1, mo2⟩ := mod_other (n := n) (x := x) (y := y) (by omega) (by omega)
            obtain ⟨ws, hw1, hw2⟩ := pl3.size
            refine ⟨_, rfl, .inl ⟨rfl, _, SqL.of hw1⟩, _, rfl, a, _, rfl, hp3, by decide, by decide, fun z z0 z1 => ⟨rfl, _, rfl, ifD (fun _ => ?_) (fun _ => ?_)⟩⟩
            · obtain ⟨ws', k1', k2', k3'⟩ := pl3.push' ht3
              refine ⟨_, rfl, pp, ws', _, rfl, rfl, k1', size_lt (by omega), ?_⟩
              refine ⟨_, _, _, qs ++ [(e0.1, e0.2)], rfl, same_mut sm3 npp, k3', by rw [List.length_append, lq]; rfl, edq.app ?_, spq.app, ?_⟩
              · intro e he
                rw [List.mem_singleton.mp he]
                exact ⟨ne, ht1, ht2⟩
              · rw [upd_ne (ne_of ht3 k1' (fun q => by cases q))]; exact ht3
            · refine ⟨_, rfl, _, rfl, by show 2 ≤ sizeLine; decide, fun T nT => ?_⟩
              have vo : V.int (((x : Int) + 1 + (y : Int)) % (n : Int)) = nV ((x + 1 + y) % n) := rfl
              obtain ⟨ws', k1', k2', k3'⟩ := pl3.pushV (Same.refl H3) nT (rfl : V.int (x : Int) = nV x) vo
              refine ⟨pp, ws', _, rfl, rfl, k1', size_lt (by omega), ?_⟩
              refine ⟨_, _, _, qs ++ [(x, (x + 1 + y) % n)], rfl, same_mut (sm3.trans (same_upd nT)) npp, k3', by rw [List.length_append, lq]; rfl, edq.app ?_, spq.app, ?_⟩
              · intro e he
                rw [List.mem_singleton.mp he]
                exact ⟨fun q => mo1 q.symm, by omega, mo2⟩
              · rw [upd_ne (ne_of ((same_upd nT) _ _ ht3) k1' (fun q => by cases q))]
                exact (same_upd nT) _ _ ht3
          · rintro σ3 H3 ⟨y9, y10, y11, qs, rfl, sm3, pl3, lq, edq, spq, ht3⟩
            exact ⟨_, _, _, qs, rfl, sm3, pl3, by omega, by omega, edq, spq⟩
        · rintro σ3 H3 ⟨y9, y10, y11, qs, rfl, sm3, pl3, lq, lq1, edq, spq⟩
          -- order, edges
          refine ⟨_, rfl, _, rfl, a, _, rfl, hp.same sm3, by omega, by omega, fun H4 op o sm4 ho hperm => ?_⟩
          rw [Int.toNat_natCast] at hperm
          have lo : o.length = n := by rw [hperm.length_eq, List.length_range]
          obtain ⟨ws, hw1, hw2⟩ := pl3.same sm4
          have lw := hw2.len
          refine ⟨_, rfl, pp, rfl, ⟨_, SqL.of hw1⟩, fun E1 nE1 => ?_⟩
          refine lc_list (K := K) (a := pp) (xs := ws) (fun i H5 => Same H4 H5 ∧ PLst H5 E1 ((qs.map (relabel o)).take i)) ⟨same_upd nE1, [], upd_same, by rw [List.take_zero]; exact True.intro⟩ (fun i H5 _ h => SqL.of (h.1 _ _ hw1)) ?_ ?_
          · rintro i x H5 hx ⟨sm5, pl5⟩
            have hi : i < qs.length := by rw [← lw]; exact (List.getElem?_eq_some_iff.mp hx).1
            obtain ⟨T, eT, hT⟩ := Prs.get hw2 hi
            rw [eT] at hx
            obtain rfl := Option.some.inj hx
            have hT5 := sm5 _ _ hT
            obtain ⟨_, u1, u2⟩ := edq _ (List.getElem_mem hi)
            have g1 : (o.map nV)[qs[i].1]? = some (nV (o.getD qs[i].1 0)) := by
              rw [List.getD_eq_getElem?_getD, List.getElem?_map, List.getElem?_eq_getElem (by omega)]; rfl
            have g2 : (o.map nV)[qs[i].2]? = some (nV (o.getD qs[i].2 0)) := by
              rw [List.getD_eq_getElem?_getD, List.getElem?_map, List.getElem?_eq_getElem (by omega)]; rfl
            have ho5 := SqT.of (K := K) (sm5 _ _ ho)
            refine ⟨T, _, rfl, SqT.of hT5, rfl, _, _, rfl, _, _, rfl, rfl, rfl, yes_ ?_⟩
            refine ⟨_, rfl, _, rfl, _, _, _, _, rfl, rfl, ho5, atI_nat g1, _, rfl, _, rfl, _, _, _, _, rfl, rfl, ho5, atI_nat g2, _, _, rfl, ?_⟩
            refine ⟨_, rfl, _, rfl, _, _, _, _, rfl, rfl, ho5, atI_nat g1, _, rfl, _, rfl, _, _, _, _, rfl, rfl, ho5, atI_nat g2, _, _, rfl, by show 2 ≤ sizeLine; decide, fun T2 nT2 => ?_⟩
            have m1' : V.int (if ((o.getD qs[i].2 0 : Nat) : Int) < ((o.getD qs[i].1 0 : Nat) : Int) then ((o.getD qs[i].2 0 : Nat) : Int) else ((o.getD qs[i].1 0 : Nat) : Int)) = nV (min (o.getD qs[i].1 0) (o.getD qs[i].2 0)) := congrArg V.int (by split <;> omega)
            have m2' : V.int (if ((o.getD qs[i].2 0 : Nat) : Int) > ((o.getD qs[i].1 0 : Nat) : Int) then ((o.getD qs[i].2 0 : Nat) : Int) else ((o.getD qs[i].1 0 : Nat) : Int)) = nV (max (o.getD qs[i].1 0) (o.getD qs[i].2 0)) := congrArg V.int (by split <;> omega)
            obtain ⟨zs, k1', k2', k3'⟩ := pl5.pushV (Same.refl H5) nT2 m1' m2'
            refine ⟨zs, k1', size_lt (by rw [k2', List.length_take]; omega), same_mut (sm5.trans (same_upd nT2)) nE1, ?_⟩
            rw [List.take_add_one, List.getElem?_map, List.getElem?_eq_getElem hi]
            exact k3'
          · rintro H5 ⟨sm5, pl5⟩
            rw [lw, List.take_of_length_le (by rw [List.length_map]; exact Nat.le_refl _)] at pl5
            have gd := relabel_good (by omega) hperm edq spq
            obtain ⟨zs, hz1, hz2⟩ := pl5.size
            rw [List.length_map] at hz2
            have hp5 : PoolAt H5 a := hp.same ((sm3.trans sm4).trans sm5)
            refine ⟨_, rfl, _, rfl, _, rfl, _, qs.length, rfl, .inl ⟨_, SqL.of hz1, hz2.symm⟩, a, _, rfl, hp5, by omega, by omega, fun H6 op2 o2 sm6 ho2 hperm2 => ?_⟩
            rw [Int.toNat_natCast] at hperm2
            have lo2 : o2.length = qs.length := by rw [hperm2.length_eq, List.length_range]
            refine ⟨op2, rfl, ⟨_, SqT.of ho2⟩, fun E2 nE2 => ?_⟩
            obtain ⟨zs6, hz6, hz7⟩ := pl5.same sm6
            refine lc_tup (K := K) (a := op2) (xs := o2.map nV) (fun i H7 => Same H6 H7 ∧ PLst H7 E2 ((pick (qs.map (relabel o)) o2).take i)) ⟨same_upd nE2, [], upd_same, by rw [List.take_zero]; exact True.intro⟩ (fun i H7 _ h => SqT.of (h.1 _ _ ho2)) ?_ ?_
            · rintro i x H7 hx ⟨sm7, pl7⟩
              have hi : i < o2.length := by
                have := (List.getElem?_eq_some_iff.mp hx).1
                rwa [List.length_map] at this
              rw [getMap hi] at hx
              obtain rfl := Option.some.inj hx
              have hk : o2[i] < (qs.map (relabel o)).length := by
                rw [List.length_map]
                exact List.mem_range.mp (hperm2.mem_iff.mp (List.getElem_mem hi))
              obtain ⟨T, eT, hT⟩ := Prs.get hz7 hk
              refine ⟨rfl, yes_ ?_⟩
              refine ⟨_, rfl, _, rfl, _, _, _, _, rfl, rfl, SqL.of (sm7 _ _ hz6), atI_nat eT, ?_⟩
              obtain ⟨ws', k1', k2', k3'⟩ := pl7.push' (sm7 _ _ hT)
              refine ⟨ws', k1', size_lt (by rw [k2', List.length_take]; omega), same_mut sm7 nE2, ?_⟩
              unfold pick
              rw [List.take_add_one, List.getElem?_map, List.getElem?_eq_getElem hi]
              have e : (qs.map (relabel o)).getD o2[i] (0, 0) = (qs.map (relabel o))[o2[i]] := by
                rw [List.getD_eq_getElem?_getD, List.getElem?_eq_getElem hk]; rfl
              show PLst _ E2 (_ ++ [(qs.map (relabel o)).getD o2[i] (0, 0)])
              rw [e]
              exact k3'
            · rintro H7 ⟨sm7, pl7⟩
              have lp : (pick (qs.map (relabel o)) o2).length = qs.length := by unfold pick; rw [List.length_map, lo2]
              rw [List.length_map, List.take_of_length_le (by rw [lp, lo2]; exact Nat.le_refl _)] at pl7
              have pm : (pick (qs.map (relabel o)) o2).Perm (qs.map (relabel o)) := pick_perm (by rw [List.length_map]; exact hperm2)
              refine ⟨by show 2 ≤ sizeLine; decide, fun t nt => ?_⟩
              refine q _ t E2 n _ (((((sm3.trans sm4).trans sm5).trans sm6).trans sm7).trans (same_upd nt)) upd_same ((((sm3.trans sm4).trans sm5).trans sm6).free nE2) (pl7.same (same_upd nt)) n1 n2 (gd.perm pm) ?_
              rw [lp]; exact lq
end
end G3

set_option Elab.async false
set_option linter.all false
set_option maxRecDepth 100000
set_option maxHeartbeats 4000000
/-! An own error whose __init__ says super().__init__(number) and self.number = number; made, raised, caught. -/
namespace SupX
open PySem PySem.W PySem.Calls PyProof.Rows PySem.HandSPX
def iA (p1 p2 : Pos) : Arguments :=
  { posonlyargs := [], args := [⟨"self", none, p1⟩, ⟨"number", none, p2⟩], vararg := none, kwonlyargs := [], kw_defaults := [], kwarg := none, defaults := [] }
def iB (q1 q2 q3 q4 q5 q6 q7 q8 q9 q10 : Pos) : List Stmt :=
  [.Expr (.Call (.Attribute (.Call (.Name "super" q1) [] [] q2) "__init__" q3) [.Name "number" q4] [] q5) q6, .Assign [.Attribute (.Name "self" q7) "number" q8] (.Name "number" q9) q10]
def iS : Scope :=
  { kind := .function, names := [(Str.ofString "self", .local), (Str.ofString "number", .local), (Str.ofString "__class__", .free), (Str.ofString "super", .globalImplicit)], isGenerator := false, isCoroutine := false, more := [] }
/-- what the written part says of such a class at C, its name x, its __init__ at fI -/
structure SupTxt (prog : Program) (K : Frag) (mg : Str → Option Value) (x : Str) (C fI : Addr) : Prop where
  gC : mg x = some (.ref C)
  cls : ∃ nm q N bs bm sn sub ab col dd k0 k1 k2 k3 k5, K.lookup C = some (excClassObj nm q C N bs bm true sn sub ab col dd k0 k1 k2 k3 k5 "ValueError.__new__") ∧ refsVE bm = true
  sa : findIn K (.ref C) "__setattr__" = some (some (.builtin "object.__setattr__"))
  ga : findIn K (.ref C) "__getattribute__" = some (some (.builtin "BaseException.__getattribute__"))
  gg : findIn K (.ref C) "__getattr__" = some none
  noN : findIn K (.ref C) "number" = some none
  iC : findIn K (.ref C) "__init__" = some (some (.ref fI))
  tC : typeIn K (.ref fI) = some (.type "function")
  kC : keepIn K (.ref C) = true
  exC : subIn K (.ref C) (.type "BaseException") = some true
  vE : subIn K (.ref C) (.type "ValueError") = some true
  tyC : typeIn K (.ref C) = some (.type "type")
  hdC : hasDictIn K C = true
  sup : ks_superIn K C C "__init__" = some (some (.builtin "ValueError.__init__"))
  self_ : mroIn K C (.ref C) = some true
  stat : nsIn K cStatics "thirdparty.any" = some none
  free : mg "super" = none
  htop : (prog.main.scope.names.lookup (Str.ofString "super")).isSome = false
  fn : ∃ (oc : Value) (od : Option Addr) (doc pm : Value) (an : Option Addr) (ct : Value) (osl : Array (Option Value)) (p1 p2 q1 q2 q3 q4 q5 q6 q7 q8 q9 q10 : Pos) (qual : Str) (cda cc : Addr),
    K.lookup fI = some ⟨oc, od, .func (ksFn "__init__" qual (iA p1 p2) (iB q1 q2 q3 q4 q5 q6 q7 q8 q9 q10) iS .none .none doc pm an (.ref cda) ct cc), osl⟩ ∧ codeIn K (.ref cda) qual = true ∧ (q3.endLine == q5.line) = true ∧
    (∃ (cl : Value) (cld : Option Addr) (csl : Array (Option Value)), K.lookup cc = some ⟨cl, cld, .cell (some (.ref C)), csl⟩) ∧
    ∃ (ccl : Value) (cdd : Option Addr) (ccs : Array (Option Value)) (vs : Array Value) (file : Str) (tf : Tok), K.lookup cda = some ⟨ccl, cdd, .fields vs, ccs⟩ ∧ vs[2]? = some (.str file tf) ∧ ((prog.main.file : Str) == file) = true
/-- what __init__ leaves of a fresh exception at e -/
structure SupEnd (h h' : Heap) (e C dx t1 : Addr) (v : Value) : Prop where
  keep : ∀ b o, b ≠ e → h.get? b = some o → h'.get? b = some o
  obj : h'.get? e = some { cls := .ref C, dict := some dx, data := .fields #[.ref t1, .none, .none, .none, .bool false, .none] }
  dbig : h.objs.size ≤ dx
  dne : dx ≠ e
  ns : h'.Ns1 dx (fun y => if y = "number" then some v else none)
theorem in_but {K : Frag} {h h' : Heap} {x : Addr} (X : K.In h) (hx : K.lookup x = none) (k : ∀ b o, b ≠ x → h.get? b = some o → h'.get? b = some o) : K.In h' := fun a o q =>
  k a o (fun z => by rw [z, hx] at q; cases q) (X a o q)
section
variable {prog : Program} {w : World} {A : Around} {E : Value → Shared → Prop} {R : Result → Shared → Prop} {s : Shared} {K : Frag} {mg mb : Str → Option Value} {x : Str} {C fI : Addr}
theorem sup_init (T : SupTxt prog K mg x C fI) {e t0 : Addr} {v : Value} (X : K.In s.heap) (hlim : s.heap.NoLimit) (G : s.heap.Ns mainGlobals mg) (Bn : s.heap.Ns builtinsNs mb) (hb : mb "super" = some (.type "super"))
    (hx : s.heap.get? e = some (excO C t0)) (hnx : K.lookup e = none) (hroom : A.depth < recursionLimit)
    (hq : ∀ h' tk dx t1, SupEnd s.heap h' e C dx t1 v → R (.ok (.ret .none)) { s with heap := h', toks := tk }) :
    codeAny (model prog w) A (.call (.ref fI) ⟨[.ref e, v], []⟩) R s := by
  obtain ⟨hp, g, d, t, os⟩ := s
  obtain ⟨oc, od, doc, pm, an, ct, osl, p1, p2, q1, q2, q3, q4, q5, q6, q7, q8, q9, q10, qual, cda, cc, ho, hcd, hline, ⟨cl, cld, csl, hcc⟩, ccl, cdd, ccs, vs, file, tf, hcode, hvs, hfile⟩ := T.fn
  obtain ⟨nm, q, N, bs, bm, sn, sub, ab, col, dd, k0, k1, k2, k3, k5, hC, hbm⟩ := T.cls
  have hcl : clsIn K C = some { name := nm, bases := bs, mro := .ref C :: bm, ns := N, qualname := q, hasDict := true, slotNames := sn, subclasses := sub, abstract := ab, collection := col, hasDel := false } := by unfold clsIn; rw [hC] <;> rfl
  refine ks_codeAny_call_defAt (fd := ksFn "__init__" qual (iA p1 p2) (iB q1 q2 q3 q4 q5 q6 q7 q8 q9 q10) iS .none .none doc pm an (.ref cda) ct cc) (body := iB q1 q2 q3 q4 q5 q6 q7 q8 q9 q10)
    (binds := [("self", .ref e), ("number", v)]) hroom (X _ _ ho) rfl hlim (codeRec_of X hcd) rfl (BindsTo.of_eq (by first | rfl | with_unfolding_all rfl)) (show ∀ y ∈ iS.names, y.2 ≠ .cell by decide) (locs rfl) (fun h₀ hns hk => ?_)
  have X0 : K.In h₀ := X.keeps hk
  have he0 : h₀.get? e = some (excO C t0) := hk _ _ hx
  have I0 : InstAt h₀ e (excO C t0) C none := ⟨he0, rfl, rfl, trivial⟩
  have heL : e ≠ hp.objs.size := Nat.ne_of_lt (Heap.lt_size hx)
  refine ks_wpAt_execs_cons (env := ksEnv qual iS hp.objs.size fI (.ref cda) cc) (ks_wpAt_Expr_any ?_)
  have hcall : eval (.Call (.Attribute (.Call (.Name "super" q1) [] [] q2) "__init__" q3) [.Name "number" q4] [] q5) (ksEnv qual iS hp.objs.size fI (.ref cda) cc) = (do
      let ov ← attributeBase (.Call (.Name "super" q1) [] [] q2) "__init__" (ksEnv qual iS hp.objs.size fI (.ref cda) cc) (eval (.Call (.Name "super" q1) [] [] q2) (ksEnv qual iS hp.objs.size fI (.ref cda) cc))
      standAt q3.atName
      let (f, first) ← holding [ov] (getMethod ov "__init__" (L2.plainOf (.Call (.Name "super" q1) [] [] q2) (ksEnv qual iS hp.objs.size fI (.ref cda) cc)))
      callWith q5 f first (backTo q5 (starEach [.Name "number" q4] (ksEnv qual iS hp.objs.size fI (.ref cda) cc))) []) := by
    rw [arm_eval_Call]
    congr 1
    funext ov
    congr 1
    funext _
    exact L2.mcall_line rfl hline
  refine ks_wpAt_MethodCall ?_ hcall
  refine ks_wpAt_super_base (env := ksEnv qual iS hp.objs.size fI (.ref cda) cc) rfl rfl rfl rfl (X0 _ _ ho) rfl rfl rfl (X0 _ _ hcode) rfl hvs hfile T.htop ?_
  refine ks_loadName_global rfl rfl (loadGlobal_builtin (env := ksEnv qual iS hp.objs.size fI (.ref cda) cc) (G.keeps hk) T.free (Bn.keeps hk) hb ⟨rfl, ?_⟩)
  refine wpAny_loadName_free rfl rfl rfl ⟨_, X0 _ _ hcc, rfl⟩ ?_
  refine wpAny_loadName_local rfl rfl hns rfl ?_
  refine ks_wpAny_isType_cls (X0 _ _ hC) rfl ⟨rfl, ?_⟩
  refine ks_wpAny_call_super (X0 _ _ hC) rfl he0 rfl (fun c z => nomatch z) (looks_mroIn X0 T.self_) (fun h1 hso k1 => ?_)
  have X1 : K.In h1 := X0.keeps k1
  have I1 : InstAt h1 e (excO C t0) C none := ⟨k1 _ _ he0, rfl, rfl, trivial⟩
  have hal : alongIn K "__init__" (((Value.ref C :: bm).dropWhile (· != .ref C)).drop 1) = some (some (.builtin "ValueError.__init__")) := by
    have z := T.sup
    unfold ks_superIn at z
    rw [hcl] at z
    exact z
  refine kxs_getMethod kxs_ValueError hso (looks_opaque X1 T.stat) (l₀ := .ref C :: bm) (fun A Q E s k q => wpAny_bind ((looks_clsIn X1 hcl) A _ E s k (wpAny_pure q))) rfl X1 hal (I1.type.andThen (looks_subIn X1 T.vE)) (ks_ne X1 I1 hcl) rfl ?_
  have hmw : (h1.push (kxs_mw "ValueError.__init__" e)).get? h1.objs.size = some (kxs_mw "ValueError.__init__" e) := Heap.get?_push_size _ rfl
  have k2 : ∀ b o, h1.get? b = some o → (h1.push (kxs_mw "ValueError.__init__" e)).get? b = some o := fun b o z => Heap.get?_push_of_some _ z
  have k02 : ∀ b o, hp.get? b = some o → (h1.push (kxs_mw "ValueError.__init__" e)).get? b = some o := fun b o z => k2 b o (k1 b o (hk b o z))
  have hns2 : (h1.push (kxs_mw "ValueError.__init__" e)).Ns hp.objs.size (fun y => ([("self", .ref e), ("number", v)] : List (Str × Value)).reverse.lookup y) := by
    obtain ⟨oL, es, ep, hL, rr⟩ := hns
    exact ⟨oL, es, ep, k2 _ _ (k1 _ _ hL), rr⟩
  have hargs : starEach [.Name "number" q4] (ksEnv qual iS hp.objs.size fI (.ref cda) cc) = (false, eval (.Name "number" q4) (ksEnv qual iS hp.objs.size fI (.ref cda) cc)) :: starEach [] (ksEnv qual iS hp.objs.size fI (.ref cda) cc) := rfl
  rw [hargs]
  refine kxs_callWith (i := "ValueError.__init__") (x := e) (u := h1.objs.size) rfl (evalArgs_plain (spliced_cons (wpAny_Name (wpAny_loadName_local rfl rfl hns2 rfl (spliced_nil ⟨hmw, ?_⟩)) (by decide))))
  have he2 : (h1.push (kxs_mw "ValueError.__init__" e)).get? e = some (excO C t0) := k2 _ _ (k1 _ _ he0)
  have hC2 := k2 _ _ (X1 _ _ hC)
  have FB := F.excBase_ValueError
  have b1 : (Value.type "method-wrapper" == Value.type "method" || Value.type "method-wrapper" == Value.type "builtin_function_or_method" || Value.type "method-wrapper" == Value.type "method-wrapper") = true := by decide
  refine wpAny_call (codeAny_of_tree (show wpAny (model prog w) _ (callAny (.ref h1.objs.size) ⟨[v], []⟩) _ _ _ from ?_))
  unfold callAny
  refine wpAny_bind (wpAny_load hmw ?_)
  simp only [kxs_mw, b1, if_true]
  refine KFB.if_so (by decide) (wpAny_bind (check_bound_init FB.toExcCallFacts hC2 he2 rfl (wpAny_bind (wpAny_pure (wpAny_pure ⟨plainId_quiet FB.init.plain _, codeAny_builtin FB.initEntry ?_⟩)))))
  refine exc_init_tree (cls := .ref C) (t0 := t0) (dv := none) (c2 := .none) (c3 := .none) (b4 := .bool false) he2 (by show 1 ≤ sizeLine; decide) (fun h3 k3 he3 ht3 => ?_)
  have X3 : K.In h3 := in_but (X.keeps k02) hnx k3
  have hns3 : h3.Ns hp.objs.size (fun y => ([("self", .ref e), ("number", v)] : List (Str × Value)).reverse.lookup y) := by
    obtain ⟨oL, es, ep, hL, rr⟩ := hns2
    exact ⟨oL, es, ep, k3 _ _ (Ne.symm heL) hL, rr⟩
  have hlt : hp.objs.size < h3.objs.size := hns3.lt
  refine wpAt_of_wpAny (wpAny_execs_cons (plainObj_wpAny_Assign_Attribute ?_))
  refine wpAny_Name (wpAny_loadName_local rfl rfl hns3 rfl (wpAny_Name (wpAny_loadName_local rfl rfl hns3 rfl ?_) (by decide))) (by decide)
  refine set_plain X3 (ox := excO C (h1.push (kxs_mw "ValueError.__init__" e)).objs.size) (od := none) ⟨he3, rfl, rfl, trivial⟩ T.sa ?_
  refine exc_osa X3 he3 hcl (show refsVE (.ref C :: bm) = true from hbm) rfl T.noN (fun h4 tk4 dx k4 dn dne he4 hn4 => ?_)
  refine wpAny_execs_nil (hq h4 tk4 dx _ ⟨fun b o nb z => k4 b o nb (k3 b o nb (k02 b o z)), he4, Nat.le_trans (Nat.le_of_lt hlt) dn, dne, hn4⟩)
/-- such an error made -/
structure SupMade (h h' : Heap) (e C d : Addr) (v : Value) : Prop where
  keep : ∀ b o, h.get? b = some o → h'.get? b = some o
  new : h.objs.size ≤ e
  obj : ∃ oe vs, h'.get? e = some oe ∧ oe.cls = .ref C ∧ oe.dict = some d ∧ oe.data = .fields vs ∧ vs[1]? = some .none
  dbig : h.objs.size ≤ d
  dne : d ≠ e
  ns : h'.Ns1 d (fun y => if y = "number" then some v else none)
theorem sup_made (T : SupTxt prog K mg x C fI) {v : Value} (X : K.In s.heap) (hlim : s.heap.NoLimit) (G : s.heap.Ns mainGlobals mg) (Bn : s.heap.Ns builtinsNs mb) (hb : mb "super" = some (.type "super")) (hroom : A.depth + 1 < recursionLimit)
    (hq : ∀ h' tk e d, SupMade s.heap h' e C d v → R (.ok (.ret (.ref e))) { s with heap := h', toks := tk }) :
    codeAny (model prog w) A (.call (.ref C) ⟨[v], []⟩) R s := by
  obtain ⟨nm, q, N, bs, bm, sn, sub, ab, col, dd, k0, k1, k2, k3, k5, hC, hbm⟩ := T.cls
  obtain ⟨hp, g, dr, tk, os⟩ := s
  have k : ∀ b o, hp.get? b = some o → ((hp.push (kdv_tup [v])).push (excO C hp.objs.size)).get? b = some o := fun b o z => Heap.get?_push_of_some _ (Heap.get?_push_of_some _ z)
  have hget : ((hp.push (kdv_tup [v])).push (excO C hp.objs.size)).get? (hp.objs.size + 1) = some (excO C hp.objs.size) := by heap_get
  have hnx : K.lookup (hp.objs.size + 1) = none := by
    cases z : K.lookup (hp.objs.size + 1) with
    | none => rfl
    | some o => exact absurd (Nat.lt_of_succ_lt (Heap.lt_size (show hp.get? (hp.objs.size + 1) = some o from X _ _ z))) (Nat.lt_irrefl _)
  refine call_own F.excBase_ValueError (fun X => refsVE_contains X bm hbm) (X _ _ hC) (looks_findIn X T.iC) (fun self => bind_fn X self T.tC) (by show 1 ≤ sizeLine; decide) ?_
  refine sup_init (s := ⟨(hp.push (kdv_tup [v])).push (excO C hp.objs.size), g, dr, tk, os⟩) T (X.keeps k) (hlim.keeps k) (G.keeps k) (Bn.keeps k) hb hget hnx (show A.depth + 1 < recursionLimit from hroom) fun h' tk' dx t1 S => ?_
  have old : ∀ b o, hp.get? b = some o → h'.get? b = some o := fun b o z => S.keep b o (Nat.ne_of_lt (Nat.lt_succ_of_lt (Heap.lt_size z))) (k b o z)
  have z : hp.objs.size + 1 + 1 ≤ dx := by
    have q := S.dbig
    first
      | exact q
      | (simpa only [Heap.size_push] using q)
  exact ⟨rfl, hq h' tk' (hp.objs.size + 1) dx ⟨old, Nat.le_succ _, ⟨_, _, S.obj, rfl, rfl, rfl, rfl⟩, Nat.le_trans (Nat.le_trans (Nat.le_succ _) (Nat.le_succ _)) z, S.dne, S.ns⟩⟩
end
end SupX
namespace L2
open PySem PySem.Spec PyProof.Rows
theorem relO_num {v : V} {v' : Value} (r : RelV v v') (f : Str) : RelO (List.lookup f [(("number" : Str), v)]) (if f = "number" then some v' else none) := by
  by_cases hw : f = "number"
  · subst hw
    rw [if_pos rfl]
    have q : List.lookup ("number" : Str) [(("number" : Str), v)] = some v := by simp [List.lookup]
    rw [q]
    exact r
  · rw [if_neg hw]
    have qw : (f == ("number" : Str)) = false := by simpa using hw
    have q2 : List.lookup f [(("number" : Str), v)] = none := by simp [List.lookup, qw]
    rw [q2]
    trivial
section
variable {X : Cx} {x : Str} {C fI : Addr}
/-- C(e), such an error -/
def tMkSup (C : Addr) (ta : TA) : L2.St → Hp → XK → Prop := fun σ H Q => ta σ H fun vs H1 => ∃ v, vs = [v] ∧ ∀ d, H1 d = none → Q (.ref C) (some d) (upd H1 d (.xd [(("number" : Str), v)]))
theorem pmk_sup {a : Expr} {ta : TA} {p pos : Pos} {k : Nat} (T : SupX.SupTxt X.prog X.K X.mg x C fI) (hr : Room k X.A) (ha : PA X [a] ta) (hg : Gl X x := by rfl) (hdb : (x == ("__debug__" : Str)) = false := by decide)
    (he : starEach (a :: []) X.env = (false, eval a X.env) :: starEach [] X.env := by rfl) (hpl : (backTo pos (starEach [] X.env)).any (·.1) = false := by rfl) :
    PMk X (.Call (.Name x p) [a] [] pos) (tMkSup C ta) := by
  intro pins s σ H Q I h
  refine wpAny_Call_Name_kw (ld_glob I hg T.gC ?_ hdb)
  refine PySem.W.callWith_K (h₀ := X.base) I.ok.mod.kin T.kC (thn (ha.run pos pins s σ H _ I h) fun us s1 hh => ?_) he hpl
  obtain ⟨vs, H1, I1, r1, v, ev, q1⟩ := hh
  subst ev
  refine ⟨I1.kIn, ?_⟩
  cases r1 with
  | cons rv rn =>
    rename_i v' us'
    cases rn
    show wpAny _ _ (call (.ref C) [v']) _ _ _
    have hlim := I1.nolimit
    obtain ⟨mb, hB, hmb⟩ := I1.ok.mod.blt
    have hG := I1.ok.mod.glob.keeps I1.bk
    have hB := hB.keeps I1.bk
    have hsup : mb "super" = some (.type "super") := (hmb "super" (by decide)).trans (by decide +kernel)
    obtain ⟨hp, g, dr, tk, os⟩ := s1
    refine wpAny_call (SupX.sup_made (s := ⟨hp, g, dr, tk, os⟩) T I1.kIn hlim hG hB hsup (by have := hr.dp; omega) fun h' tk' e d M => ?_)
    show MkP X pins σ Q (.ref e) ⟨h', g, dr, tk', os⟩
    obtain ⟨oe, fv, hoe, hc, hd, hdat, h1⟩ := M.obj
    obtain ⟨G', g1, g2⟩ := restrict h' fun b => decide (b ≠ e)
    have gk : ∀ b, b ≠ e → G'.get? b = h'.get? b := fun b hb => g1 b (decide_eq_true hb)
    have ge : G'.get? e = none := g2 e (by simp)
    have old : ∀ b o, hp.get? b = some o → G'.get? b = some o := fun b o q => (gk b (Nat.ne_of_lt (Nat.lt_of_lt_of_le (Heap.lt_size q) M.new))).trans (M.keep b o q)
    have ob : ObjOk X.prog X.w (upd H1 d (.xd [(("number" : Str), v)])) G' d (.xd [(("number" : Str), v)]) := ⟨_, M.ns.at (fun o q => (gk d M.dne).trans q), fun f => relO_num rv f⟩
    have J : Inv X pins σ (upd H1 d (.xd [(("number" : Str), v)])) ⟨G', g, dr, tk', os⟩ := I1.laid (t' := tk') old M.dbig ob
    refine ⟨e, oe, fv, ⟨G', g, dr, tk', os⟩, _, .ref C, some d, rfl, J, fun b o q => ?_, ge, hoe, ⟨hc, hd⟩, hdat, h1, ?_, rfl, I1.bare, raises_own T.exC T.tyC, q1 d (I1.hok.fresh M.dbig)⟩
    · by_cases hb : b = e
      · have q' : G'.get? b = some o := q
        rw [hb, ge] at q'; cases q'
      · exact (gk b hb).symm.trans q
    · rw [upd_ne (Ne.symm M.dne)]
      exact I1.hok.fresh M.new
end
end L2

set_option Elab.async false
set_option linter.all false
set_option maxRecDepth 100000
set_option maxHeartbeats 4000000
/-! try: .. with several clauses «except C as n», n one and the same name; a raise of the errors of Bx; their field read in a suite. -/
namespace L2
open PySem PySem.Spec PyProof.Rows
/-- behind a suite with a name: the name's slot is empty again -/
def endsAs (D : Ends) (i : Nat) : Ends :=
  { nx := fun τ G => D.nx (τ.set i none) G, rt := D.rt, bk := fun τ G => D.bk (τ.set i none) G, ct := fun τ G => D.ct (τ.set i none) G }
/-- what the clauses wish of an error of the body, one after the other; slot i is the name's -/
def wMas (K : PySem.W.Frag) (i : Nat) (Wout : WX) (D : Ends) : List (Value × (Addr → Value → Option Addr → TS)) → WX
  | [] => Wout
  | (c, ts) :: r => fun cls d τ G => ∃ b, PySem.W.exmOne K cls c = some b ∧
      (b = true → ∀ a, G a = none → ts a cls d (endsAs D i) (τ.set i (some (.ref a))) G) ∧ (b = false → wMas K i Wout D r cls d τ G)
inductive HdsAs (X : Cx) (n : Str) : List ExceptHandler → List (Value × (Addr → Value → Option Addr → TS)) → Prop
  | nil : HdsAs X n [] []
  | cons {x : Str} {c : Value} {ts : Addr → Value → Option Addr → TS} {first : Stmt} {suite : List Stmt} {np hpos : Pos} {more : List ExceptHandler} {l : List (Value × (Addr → Value → Option Addr → TS))}
      (named : Names X x c)
      (body : ∀ (a : Addr) (oe : Obj) (cls : Value) (d : Option Addr) (pn : List (Addr × Obj)), Zc cls d oe → (∃ vs, oe.data = .fields vs) → PSs (X.suite a ((a, oe) :: pn)) (first :: suite) (ts a cls d))
      (rest : HdsAs X n more l) : HdsAs X n (.ExceptHandler (some (.Name x np)) (some n) (first :: suite) hpos :: more) ((c, ts) :: l)
section
variable {X : Cx} {n : Str} {i : Nat} {body : List Stmt} {one : ExceptHandler} {more : List ExceptHandler} {l : List (Value × (Addr → Value → Option Addr → TS))} {pos : Pos} {tb : WX → TS} {Wout : WX}
theorem ps_try_mas (hst : X.stack = X.env :: X.outer) (hfr : X.env.frame = some X.env.locals) (nd : X.N.Nodup) (hi : X.N[i]? = some n) (hln : X.env.kindOf n = some .local) (tk : Takes X Wout)
    (hbody : ∀ (W : WX) (pn : List (Addr × Obj)) (xe : Value → Shared → Prop), Takes (X.tr pn xe) W → PassesOwn (model X.prog X.w) X.A X.env xe → PSs (X.tr pn xe) body (tb W))
    (hh : HdsAs X n (one :: more) l) : PS X (.Try body (one :: more) [] [] pos) (fun D τ G => tb (wMas X.K i Wout D l) D τ G) := by
  refine ⟨fun pins s τ G D I w0 => wpAny_Try_except ?_⟩
  have ok := I.ok
  have hframes : X.A.frames = some (X.env :: X.outer) := by rw [ok.frames, hst]
  have hloc : Loc X.env.scope n := .inl hln
  have ran := (hbody (wMas X.K i Wout D l) (X.pn ++ pins)
    (fun er t1 => wpAny (model X.prog X.w) X.A (noteFrame er X.env) (fun _ t2 => wpAny (model X.prog X.w) X.A (setFlight er none) (fun _ t3 => wpAny (model X.prog X.w) X.A (handleBy er X.env (one :: more)) (SP X pins D) X.xe t3) X.xe t2) X.xe t1)
    (fun u s' xx => ?_) PassesOwn.looking).run [] s τ G D (I.toTry _) w0
  · refine wpAny_mono ran (fun fl t1 hsp => ?_) fun er t1 z => z
    cases fl with
    | next => exact let ⟨τ', G', J, q⟩ := hsp; wpAny_execs_nil ⟨τ', G', J.ofTry ok, q⟩
    | brk => exact let ⟨τ', G', J, q⟩ := hsp; ⟨τ', G', J.ofTry ok, q⟩
    | cont => exact let ⟨τ', G', J, q⟩ := hsp; ⟨τ', G', J.ofTry ok, q⟩
    | ret u => exact let ⟨v, τ', G', J, r, q⟩ := hsp; ⟨v, τ', G', J.ofTry ok, r, q⟩
  · obtain ⟨a, Bs, sI, pins', τ', G', cls, d, rfl, J', nb, up, sky, na, os, ag, wish⟩ := xx
    have J : Inv X pins τ' G' sI := J'.ofTry ok
    have sky2 : Sky Bs (X.env :: X.outer) a (Zc cls d) X.env.locals s'.heap := by rw [← hst]; exact sky
    show wpAny _ X.A (noteFrame (.ref a) X.env) _ _ _
    refine Sky.land Zc.steady hframes hfr sky2 fun h3 fl3 up3 => ?_
    have J3 : Inv X pins τ' G' { s' with heap := h3 } := J.landed nb fl3.1 (up.trans up3) os ag
    obtain ⟨oe3, vs3, at3, z3, dat3⟩ := fl3.there
    have out : a ∉ frs (X.env :: X.outer) := fun hm => by
      obtain ⟨_, o', e', no⟩ := fl3.2.2.1.mem hm
      rw [at3] at e'; cases e'
      exact no _ dat3
    have outL : a ≠ X.env.locals := fun z => out (List.mem_filterMap.mpr ⟨X.env, List.mem_cons_self, by rw [hfr, z]⟩)
    have outF : a ∉ X.fs := fun hm => by
      obtain ⟨en, hen, q⟩ := List.mem_filterMap.mp hm
      exact out (List.mem_filterMap.mpr ⟨en, List.mem_cons_of_mem _ hen, q⟩)
    have S3 := J3.suite at3 dat3 na outL outF
    have walk : ∀ {hs : List ExceptHandler} {ls : List (Value × (Addr → Value → Option Addr → TS))}, HdsAs X n hs ls → wMas X.K i Wout D ls cls d τ' G' →
        wpAny (model X.prog X.w) X.A (handleBy (.ref a) X.env hs) (SP X pins D) X.xe { s' with heap := h3 } := by
      intro hs ls hk
      induction hk with
      | nil =>
        intro wish
        refine wpAny_handleBy_nil ?_
        obtain ⟨_, _, _, oe, vs, T, oT, ts', at', _, dat', at1, _⟩ := id fl3
        have off : wpAny (model X.prog X.w) X.A (setFlight (.ref a) X.env.frame) (fun _ t4 => wpAny (model X.prog X.w) X.A (throw (.ref a) : Sem Flow) (SP X pins D) X.xe t4) X.xe { s' with heap := h3 } := by
          rw [hfr]
          exact HandSPX.setFlight_upZ fl3 fun h4 hi4 up4 => wpAny_throw (tk _ _ ⟨a, Bs, sI, pins, τ', G', cls, d, rfl, J, nb, (up.trans up3).trans up4, .inr (.inr (by rw [hst]; exact hi4)), na, os, ag, wish⟩)
        unfold PySem.passOn
        refine wpAny_bind (wpAny_field at' dat' at1 ?_)
        rw [if_neg (show ¬ ((Value.ref T == Value.none) = true) by simp)]
        first
          | exact wpAny_bind (wpAny_pure (wpAny_bind off))
          | exact wpAny_bind off
      | @cons x c ts fs suite np hpos hs2 l2 named hsuite rest ih =>
        intro wish
        obtain ⟨b, hb1, yes, no⟩ := wish
        refine wpAny_handleBy_cons (codeAny_handlers_test ?_) (by intro q; cases q)
        have lookT : PySem.W.Looks (model X.prog X.w) h3 (typeOf (.ref a)) cls := fun A Q E t k q => wpAny_typeOf_ref (k _ _ at3) (by rw [z3.1]; exact q)
        have lookM := PySem.W.exm_one (M := model X.prog X.w) J3.kIn lookT hb1
        have asked : ∀ {Q : Value → Shared → Prop} {E : Value → Shared → Prop}, Q c { s' with heap := h3 } → wpAny (model X.prog X.w) (X.A.mark (some (.ref a))) (eval (.Name x np) X.env) Q E { s' with heap := h3 } := fun {Q E} q => by
          obtain ⟨hg, hdbg, hm | ⟨hm, hv, hnn⟩⟩ := named
          · exact ld_glob (X := X.suite a ((a, oe3) :: (X.pn ++ pins))) S3 hg hm q hdbg
          · exact ld_blt (X := X.suite a ((a, oe3) :: (X.pn ++ pins))) S3 hg hm hv q hnn hdbg
        refine asked (lookM.here ?_)
        cases b with
        | false => exact ih (no rfl)
        | true =>
          refine codeAny_handlers_suite_as (HandSPX.lands_againZ fl3 fun h4 fl4 up4 => ?_)
          have J4 : Inv X pins τ' G' { s' with heap := h4 } := J.landed nb fl4.1 ((up.trans up3).trans up4) os ag
          obtain ⟨oe4, vs4, at4, z4, dat4⟩ := fl4.there
          have S4 := J4.suite at4 dat4 na outL outF
          refine store_ok (X := X.suite a ((a, oe4) :: (X.pn ++ pins))) (v := .ref a) S4 nd hi hloc rfl (fun t5 S5 => ?_) (.inr hln)
          have run := (hsuite a oe4 cls d (X.pn ++ pins) z4 ⟨_, dat4⟩).run [] t5 _ G' _ S5 (yes rfl a na)
          refine wpAny_mono run (fun fl t6 hsp => ?_) fun _ _ z => z.elim
          have fin : ∀ {τ6 : St} {G6 : Hp} {Q : Shared → Prop}, Inv (X.suite a ((a, oe4) :: (X.pn ++ pins))) [] τ6 G6 t6 → (∀ t7, Inv X pins (τ6.set i none) G6 t7 → Q t7) →
              wpAny (model X.prog X.w) X.A (do bindName X.env n .none; unbindBehindTheSuite X.env n hpos) (fun _ t7 => Q t7) X.xe t6 := fun {τ6 G6 Q} S6 hq => gone_ok (S6.unsuite ok) nd hi hln hq
          cases fl with
          | next => exact let ⟨_, _, S6, q6⟩ := hsp; fin S6 fun t7 J7 => ⟨_, _, J7, q6⟩
          | brk => exact let ⟨_, _, S6, q6⟩ := hsp; fin S6 fun t7 J7 => ⟨_, _, J7, q6⟩
          | cont => exact let ⟨_, _, S6, q6⟩ := hsp; fin S6 fun t7 J7 => ⟨_, _, J7, q6⟩
          | ret u => exact let ⟨_, _, _, S6, r6, q6⟩ := hsp; fin S6 fun t7 J7 => ⟨_, _, _, J7, r6, q6⟩
    exact walk hh wish
end
/-! ### raise C(e) -/
section
variable {X : Cx} {x : Str} {C fI : Addr}
def tRaiseSup (C : Addr) (W : WX) (ta : TA) : TS := fun _ τ G => tMkSup C ta τ G fun cls d G' => W cls d τ G'
theorem ps_raiseSup {a : Expr} {ta : TA} {W : WX} {p pos pos2 : Pos} {k : Nat} (hc : X.calm = true) (T : SupX.SupTxt X.prog X.K X.mg x C fI) (hr : Room k X.A) (tk : Takes X W) (ha : PA X [a] ta) (hg : Gl X x := by rfl) (hdb : (x == ("__debug__" : Str)) = false := by decide)
    (he : starEach (a :: []) X.env = (false, eval a X.env) :: starEach [] X.env := by rfl) (hpl : (backTo pos (starEach [] X.env)).any (·.1) = false := by rfl) :
    PS X (.Raise (some (.Call (.Name x p) [a] [] pos)) none pos2) (tRaiseSup C W ta) := ps_raise hc tk (pmk_sup T hr ha hg hdb he hpl)
end
end L2
namespace G3
open PySem PySem.Spec PyProof.Rows L2
/-- the same of a def that may raise -/
theorem has_ofX {P : Program} {w : World} {K : PySem.W.Frag} {mg : Str → Option Value} {base : Heap} {k : Nat} {x nm : Str} {ps : List Str} {sp : Sp} {st : Stmt} {N : List Str} (D : DefAt K mg x nm st) (S : FnScope N ps (defScope st))
    (hb : ∀ (kV doc pm : Value) (an : Option Addr) (cdv ct : Value) (us : List Value), us.length = ps.length → bindArgs (PySem.W.fnOf nm nm (defArgs st) (defBody st) (defScope st) .none kV doc pm an cdv ct) ⟨us, []⟩ = pure (ps.zip us))
    (len : ∀ vs H Q E, sp vs H Q E → vs.length = ps.length)
    (hbody : ∀ (f : Addr) (cdv : Value) (A : Around) (outer : List Env) (s : Shared) (H : Hp) (vs : List V) (Q : VK) (E : XK), Room k (A.deeper (envOfC nm (defScope st) s.heap.objs.size f cdv)) → sp vs H Q E →
      ∃ t, PSs (cxOf (L2.CX P w) P w K mg base N nm (defScope st) f cdv A outer s H E) (defBody st) t ∧ t { nx := fun _ H' => Q .non H', rt := Q } (start N vs) H) : Has P w K mg base (L2.CX P w) (k + 1) x ps sp := by
  obtain ⟨f, fd, F, m⟩ := D
  exact ⟨f, fd, F.okX S len (fun cdv A outer s H vs Q E hr hs => hbody f cdv A outer s H vs Q E hr hs), m, F.kp, F.binds hb⟩
/-- a call of a def that may raise, E σ what is wanted of the error -/
theorem pe_hS {X : Cx} {CX : CXT} {k j : Nat} {x : Str} {ps : List Str} {sp : Sp} {E : L2.St → XK} {p pos : Pos} {e : Expr} {es : List Expr} {t : TA} (h : Has X.prog X.w X.K X.mg X.base CX k x ps sp) (hr : Room j X.A) (hx : ∀ σ, PassesAt CX X σ (E σ))
    (ha : PA X (e :: es) t) (hk : k ≤ j := by first | decide | omega) (hg : Gl X x := by rfl) (hdb : (x == ("__debug__" : Str)) = false := by decide) (he : starEach (e :: es) X.env = (false, eval e X.env) :: starEach es X.env := by rfl)
    (hpl : (backTo pos (starEach es X.env)).any (·.1) = false := by rfl) : PE X (.Call (.Name x p) (e :: es) [] pos) (tCallS sp E t) := by
  obtain ⟨f, fd, F, m, kp, b⟩ := h
  exact pe_callS F (hr.mono hk) hg m kp b hx ha hdb he hpl
end G3

set_option Elab.async false
set_option linter.all false
set_option maxRecDepth 100000
set_option maxHeartbeats 4000000
/-! Rows that are lists or tuples: walked, walked with their numbers; a < b < c < d. -/
namespace G3
open PySem PySem.Spec PyProof.Rows L2
/-! ### for x in row -/
def iRow (K : PySem.W.Frag) (tl : TE) : TI := fun σ H R => tl σ H fun x H1 => ∃ a, x = .ref a ∧ (((∃ xs, SqL K H1 a xs) ∧ R (Itl K a) H1) ∨ ((∃ xs, SqT K H1 a xs) ∧ R (Itt K a) H1))
theorem pi_row {X : Cx} {K : PySem.W.Frag} (hK : X.K = K) {tg l : Expr} {tl : TE} (hl : PE X l tl) : PI X tg l (iRow K tl) := by
  subst hK
  refine ⟨fun pins s σ H R I h => thn (hl.run pins s σ H _ I h) fun v s1 ⟨x, H1, I1, r1, a, ex, q⟩ => ?_⟩
  subst ex
  obtain rfl : v = Value.ref a := r1
  have own : ∀ b ∈ [s1.heap.objs.size], FpOk X pins H1 b := fun b hb => by
    rw [List.mem_singleton.mp hb]
    exact I1.fpOk (Nat.le_refl _) (I1.hok.fresh (Nat.le_refl _))
  rcases q with ⟨⟨xs, hq⟩, q⟩ | ⟨⟨xs, hq⟩, q⟩
  · obtain ⟨its, rv, p, hz⟩ := I1.list hq
    exact wpAny_pyIter_list p.isList ⟨_, [s1.heap.objs.size], _, _, H1, rfl, I1.kept (t' := s1.toks) fun b o z => Heap.get?_push_of_some _ z, turn_list a _, ⟨_, Heap.get?_push_size _ rfl, rfl, rfl⟩, own, q⟩
  · obtain ⟨its, rv, p, hz⟩ := I1.tuple hq
    exact wpAny_pyIter_tuple (show s1.heap.IsTuple a its.toArray from p) ⟨_, [s1.heap.objs.size], _, _, H1, rfl, I1.kept (t' := s1.toks) fun b o z => Heap.get?_push_of_some _ z, turn_tuple a _, ⟨_, Heap.get?_push_size _ rfl, rfl, rfl⟩, own, q⟩
theorem seqL_at {K : PySem.W.Frag} {H H' : Hp} {a : Addr} {xs : List V} (k : ∀ o, H a = some o → H' a = some o) (h : SqL K H a xs) : SqL K H' a xs := by
  rcases h with (h | ⟨o, h⟩) | h
  · exact .inl (.inl (k _ h))
  · exact .inl (.inr ⟨o, k _ h⟩)
  · exact .inr h
theorem seqT_at {K : PySem.W.Frag} {H H' : Hp} {a : Addr} {xs : List V} (k : ∀ o, H a = some o → H' a = some o) (h : SqT K H a xs) : SqT K H' a xs := by
  rcases h with (h | ⟨o, h⟩) | h
  · exact .inl (.inl (k _ h))
  · exact .inl (.inr ⟨o, k _ h⟩)
  · exact .inr h
/-- the walk of a row, list or tuple, that the loop leaves as it is -/
theorem for_row {K : PySem.W.Frag} {a : Addr} {xs : List V} {g : TG} {tb : TS} {D : Ends} {σ : L2.St} {H0 H : Hp} (hr : SqL K H0 a xs ∨ SqT K H0 a xs) (Pv : Nat → L2.St → Hp → Prop) (h0 : Pv 0 σ H)
    (keep : ∀ i σ' H', Pv i σ' H' → ∀ o, H0 a = some o → H' a = some o)
    (turn : ∀ i x σ' H', xs[i]? = some x → Pv i σ' H' → g x σ' H' fun σ2 H2 => tb { D with nx := Pv (i + 1), ct := Pv (i + 1), bk := D.nx } σ2 H2) (after : ∀ σ' H', Pv xs.length σ' H' → D.nx σ' H') :
    ((∃ ys, SqL K H a ys) ∧ (∃ W : Nat → Nat → L2.St → Hp → Prop, (∃ m, W 0 m σ H) ∧ ∀ i m σ H, W i m σ H → ((Itl K a).stop i H ∧ D.nx σ H) ∨ ((Itl K a).go i H ∧ ∃ N : L2.St → Hp → Prop, (∀ σ' H', N σ' H' → ∃ m', m' < m ∧ W (i + 1) m' σ' H') ∧ ∀ x H', (Itl K a).yld i H x H' → g x σ H' fun σ2 H2 => tb { D with nx := N, ct := N, bk := D.nx } σ2 H2))) ∨
    ((∃ ys, SqT K H a ys) ∧ (∃ W : Nat → Nat → L2.St → Hp → Prop, (∃ m, W 0 m σ H) ∧ ∀ i m σ H, W i m σ H → ((Itt K a).stop i H ∧ D.nx σ H) ∨ ((Itt K a).go i H ∧ ∃ N : L2.St → Hp → Prop, (∀ σ' H', N σ' H' → ∃ m', m' < m ∧ W (i + 1) m' σ' H') ∧ ∀ x H', (Itt K a).yld i H x H' → g x σ H' fun σ2 H2 => tb { D with nx := N, ct := N, bk := D.nx } σ2 H2))) := by
  rcases hr with h | h
  · exact .inl ⟨⟨_, seqL_at (keep 0 _ _ h0) h⟩, for_list (K := K) (a := a) (xs := xs) Pv h0 (fun i σ' H' _ p => seqL_at (keep i σ' H' p) h) turn after⟩
  · exact .inr ⟨⟨_, seqT_at (keep 0 _ _ h0) h⟩, for_tup (K := K) (a := a) (xs := xs) Pv h0 (fun i σ' H' _ p => seqT_at (keep i σ' H' p) h) turn after⟩

/-! ### for i, x in enumerate(row) -/
/-- the tuple at a as it stands at each turn, each item in a new pair with its number -/
def Ieu (K : PySem.W.Frag) (a : Addr) : It where
  go := fun i H => ∃ (xs : List V) (x : V), SqT K H a xs ∧ xs[i]? = some x
  yld := fun i H v H' => ∃ T x, v = .ref T ∧ H T = none ∧ H' = upd H T (.tup [.int (i : Nat), x]) ∧ ∀ xs, SqT K H a xs → xs[i]? = some x
  stop := fun i H => ∃ xs : List V, SqT K H a xs ∧ xs.length ≤ i
theorem turn_enumU {P : Program} {w : World} {K : PySem.W.Frag} {elts : List Expr} {kk : Nat} {tpos : Pos} (a e it : Addr) :
    Turn P w K (.Tuple elts kk tpos) (Ieu K a) [e, it] e (fun i h => (∃ old, IsEnum h e it ((i : Nat) : Int) old) ∧ h.IsTupleIter it a i ∧ e ≠ it) where
  mem := by simp
  obj := fun i h st b hb => by
    obtain ⟨⟨old, he⟩, ⟨o, ho, hc, hd⟩, _⟩ := st
    rcases (show b = e ∨ b = it by simpa using hb) with z | z
    · exact z ▸ ⟨_, he, fun v q => nomatch q⟩
    · exact z ▸ ⟨o, ho, fun v q => by rw [hd] at q; cases q⟩
  keep := fun i h h' st k => let ⟨⟨old, he⟩, hi, hne⟩ := st; ⟨⟨old, k e (by simp) _ he⟩, hi.at fun o q => k it (by simp) o q, hne⟩
  item := by
    intro X hP hw hK hc i pins s σ H E I hf st hg
    subst hP hw hK
    obtain ⟨⟨old, he⟩, hit, hne⟩ := st
    obtain ⟨xs, x, hq, hx⟩ := hg
    obtain ⟨its, rv, p, hz⟩ := I.tuple hq
    obtain ⟨u, hu, ru⟩ := rv.get hx
    have hel := Heap.lt_size he
    have hil : it < s.heap.objs.size := let ⟨_, q, _⟩ := hit; Heap.lt_size q
    have nai : a ≠ it := fun z => by
      obtain ⟨o1, h1, c1, _⟩ := hit
      obtain ⟨o2, h2, c2, _⟩ := p
      rw [z, h1] at h2
      cases h2
      rw [c1] at c2
      exact absurd c2 (by decide)
    have nae : e ≠ a := fun z => by
      obtain ⟨o2, h2, c2, _⟩ := p
      rw [← z, he] at h2
      cases h2
      exact absurd (show Value.type "enumerate" = Value.type "tuple" from c2) (by decide)
    have hlt : i < its.toArray.size := by
      have := (List.getElem?_eq_some_iff.mp hu).1
      simpa using this
    refine wpAny_pyNext_enum_itemD (Draws.tuple (w := X.w) (A := X.A.in1) (I.ok.hd hc) it a nai its.toArray) he ⟨hit, (show s.heap.IsTuple a its.toArray from p)⟩ hlt hne (by simp [hne, nae]) fun y h' tk hy ho hst hT hsz hk => ?_
    have ey : u = y := by
      have z : its[i]? = some y := by simpa using hy
      exact Option.some.inj (hu.symm.trans z)
    subst ey
    refine ⟨_, rfl, wpAny_letOwnedTupleGo_enum (s := { s with heap := h', toks := tk + 1 }) ho fun h'' he' sb => ?_⟩
    have hT2 : h''.get? s.heap.objs.size = some { cls := .type "tuple", data := .seq #[.int i tk, u] } := (sb.2 _ (Nat.ne_of_gt hel)).trans hT
    have laid : ObjOk X.prog X.w (upd H s.heap.objs.size (.tup [.int (i : Nat), x])) h'' s.heap.objs.size (.tup [.int (i : Nat), x]) :=
      ⟨by show 2 ≤ sizeLine; decide, [.int i tk, u], .cons ⟨_, rfl⟩ (.cons ru .nil), ⟨_, hT2, rfl, _, rfl⟩⟩
    have I1 : Inv X pins σ (upd H s.heap.objs.size (.tup [.int (i : Nat), x])) { s with heap := h'', toks := tk + 1 } :=
      I.turnedNew (ch := [e, it]) (fun b ob hb q => (sb.2 b (fun z => hb (by simp [z]))).trans (hk b ob (fun z => hb (by simp [z])) (fun z => hb (by simp [z])) q)) hf (Nat.le_refl _) laid
    refine ⟨.ref s.heap.objs.size, _, I1, rfl, ⟨_, x, rfl, I.hok.fresh (Nat.le_refl _), rfl, fun ys hy => by rw [I.tuple_inj hy hq]; exact hx⟩, ⟨⟨u, ?_⟩, hst.1.at fun o q => (sb.2 it (Ne.symm hne)).trans q, hne⟩, fun b hb => ?_⟩
    · have e1 : ((i + 1 : Nat) : Int) = (i : Int) + 1 := by omega
      exact e1 ▸ he'
    · have hb' : b < s.heap.objs.size := by
        rcases (show b = e ∨ b = it by simpa using hb) with z | z
        · exact z ▸ hel
        · exact z ▸ hil
      rw [upd_ne (Nat.ne_of_lt hb')]
      exact (hf b hb).1
  done := by
    intro X hP hw hK hc i pins s σ H E I hf st hg
    subst hP hw hK
    obtain ⟨⟨old, he⟩, hit, hne⟩ := st
    obtain ⟨xs, hq, hx⟩ := hg
    obtain ⟨its, rv, p, hz⟩ := I.tuple hq
    obtain ⟨f0, f1, f2, f3, f4, f5⟩ := hf it (by simp)
    have hl := rv.length
    have hT : s.TypeIs (.ref e) "enumerate" := ⟨_, he, rfl⟩
    unfold pyNext
    refine wpAny_bind (wpAny_attempt (wpAny_callSpecial?_slot (name := Str.ofString "__next__") hT F.slot_enumerate_next (wpAny_call_entry F.slot_enumerate_next hT F.entry_enumerate_next ?_ (F.args_enumerate_next_1 _))))
    show wpAny _ _ (field (.ref e) 2 >>= _) _ _ _
    refine wpAny_bind (wpAny_field he rfl (x := .ref it) rfl (wpAny_bind (wpAny_nextOf_tuple_end (A := X.A.in1) (I.ok.hd hc) hit (show s.heap.IsTuple a its.toArray from p) (by simp; omega) fun h' x' he' hx' => ?_)))
    obtain ⟨o, ho, hcc⟩ := hx'
    refine wpAny_bind (wpAny_isInstance (T := "StopIteration") (b := true) ⟨o, ho, hcc⟩ isSubtype_stop (wpAny_pure ⟨rfl, I.turned (t' := s.toks) (fun b o hb q => he' b o hb q) f0 f1 f3 f4 f5⟩))
  self := fun A i s Q E st h => let ⟨⟨_, he⟩, _⟩ := st; wpAny_pyIter_enum he h

end G3
namespace PySem
open Sem (wp)
theorem meets_enumerate_new1 {v : Value} {o : Obj} {Hh : Heap → Prop} (B : Begins v o Hh) :
    Meets (Builtin.«enumerate.__new__» ⟨[.type "enumerate", v], []⟩) (fun _ R s => Hh s.heap ∧
      R (.ok (.ret (.ref (s.heap.push o).objs.size))) { s with heap := (s.heap.push o).push { cls := .type "enumerate", data := .fields #[.none, .bool false, .ref s.heap.objs.size, rawInt 0, .none, .none] } }) :=
  .of_wp fun prog w A R s h => by
    obtain ⟨hp, g, d, tk, os⟩ := s; obtain ⟨h1, h⟩ := h
    have hsub := sub_enumerate
    have q1 : ∀ {A' : Around} {E : Value → Shared → Prop} {Q : Value → Shared → Prop}, Q (.ref hp.objs.size) ⟨hp.push o, g, d, tk, os⟩ → wpAny (model prog w) A' (pyIter v) Q E ⟨hp, g, d, tk, os⟩ :=
      fun q => B.iter prog w _ _ ⟨hp, g, d, tk, os⟩ _ h1 q
    wp_walk using q1
    refine wpAny_stack_any fun st => wpAny_pure ?_
    split
    · rename_i c _ _ _ _ _
      cases (c == Value.type "enumerate")
      · wp_walk using q1
        exact ⟨_, rfl, h⟩
      · wp_walk using q1
        exact ⟨_, rfl, h⟩
    · wp_walk using q1
      exact ⟨_, rfl, h⟩
section
variable {prog : Program} {w : World} {A : Around} {E : Value → Shared → Prop} {s : Shared}
theorem enum_begins1 {v : Value} {o : Obj} {Hh : Heap → Prop} {Q : Value → Shared → Prop} (B : Begins v o Hh) (h1 : Hh s.heap)
    (h : ∀ h', IsEnum h' (s.heap.objs.size + 1) s.heap.objs.size 0 .none → h'.get? s.heap.objs.size = some o → h'.objs.size = s.heap.objs.size + 2 →
      (∀ b o, s.heap.get? b = some o → h'.get? b = some o) → Q (.ref (s.heap.objs.size + 1)) { s with heap := h' }) :
    wpAny (model prog w) A (call (.type "enumerate") [v]) Q E s := by
  refine callType_new F.called_enumerate (by decide) (F.typeCall_enumerate_1 _) (F.newCall_enumerate_1 _) (fun obj => F.args_object_init_2 obj _) F.entry_enumerate_new
    (meets_enumerate_new1 B) ⟨h1, ?_⟩
  have hz : (s.heap.push o).objs.size = s.heap.objs.size + 1 := Heap.size_push ..
  show _ ∧ _
  rw [hz]
  have he : IsEnum ((s.heap.push o).push { cls := .type "enumerate", data := .fields #[.none, .bool false, .ref s.heap.objs.size, rawInt 0, .none, .none] }) (s.heap.objs.size + 1) s.heap.objs.size 0 .none := by
    have := Heap.get?_push_size (s.heap.push o) (o := { cls := .type "enumerate", data := .fields #[.none, .bool false, .ref s.heap.objs.size, rawInt 0, .none, .none] }) rfl
    rw [hz] at this; exact this
  refine ⟨⟨_, he, rfl⟩, h _ he (Heap.get?_push_of_some _ (Heap.get?_push_size _ B.free)) (by rw [Heap.size_push, hz]) fun b o x => Heap.get?_push_of_some _ (Heap.get?_push_of_some _ x)⟩
end
end PySem
namespace G3
open PySem PySem.Spec PyProof.Rows L2
def iEnumR (K : PySem.W.Frag) (ta : TA) : TI := fun σ H R => ta σ H fun vs H1 => ∃ a, vs = [.ref a] ∧ (((∃ xs, SqL K H1 a xs) ∧ R (Ite K a) H1) ∨ ((∃ xs, SqT K H1 a xs) ∧ R (Ieu K a) H1))
theorem pi_enumR {X : Cx} {K : PySem.W.Frag} (hK : X.K = K) {e : Expr} {ta : TA} {p pos tpos : Pos} {elts : List Expr} {kk : Nat} (hg : Gl X "enumerate") (hm : X.mg "enumerate" = none) (ha : PA X [e] ta) (hs : starEach [e] X.env = [(false, eval e X.env)] := by rfl) :
    PI X (.Tuple elts kk tpos) (.Call (.Name "enumerate" p) [e] [] pos) (iEnumR K ta) := by
  subst hK
  refine ⟨fun pins s σ H R I h => ?_⟩
  refine Call_ (ld_blt I hg hm boot_enumerate (PyProof.Rows.callWith_type1 (thn (ha.run pos pins s σ H _ I h) fun us s1 ⟨vs, H1, I1, r1, q1⟩ => ?_) hs rfl))
  obtain ⟨a, ex, q⟩ := q1
  subst ex
  cases r1 with
  | cons r rr =>
    cases rr
    cases r
    have fresh : ∀ b ∈ [s1.heap.objs.size + 1, s1.heap.objs.size], FpOk X pins H1 b := fun b hb => by
      have e' : b = s1.heap.objs.size + 1 ∨ b = s1.heap.objs.size := by simpa using hb
      have hle : s1.heap.objs.size ≤ b := by
        rcases e' with z | z
        · rw [z]; exact Nat.le_add_right _ _
        · rw [z]; exact Nat.le_refl _
      exact I1.fpOk hle (I1.hok.fresh hle)
    rcases q with ⟨⟨xs, hq⟩, q⟩ | ⟨⟨xs, hq⟩, q⟩
    · obtain ⟨its, rv, p', hz⟩ := I1.list hq
      refine call_enumerate_list p'.isList fun h' he hit hsz hk => wpAny_pyIter_enum he ?_
      have I2 : Inv X pins σ H1 { s1 with heap := h' } := I1.kept (t' := s1.toks) hk
      exact ⟨s1.heap.objs.size + 1, [s1.heap.objs.size + 1, s1.heap.objs.size], _, _, H1, rfl, I2, turn_enum a (s1.heap.objs.size + 1) s1.heap.objs.size, ⟨⟨.none, he⟩, hit, Nat.succ_ne_self _⟩, fresh, q⟩
    · obtain ⟨its, rv, p', hz⟩ := I1.tuple hq
      refine enum_begins1 (begins_tuple a its.toArray) (show s1.heap.IsTuple a its.toArray from p') fun h' he hit hsz hk => wpAny_pyIter_enum he ?_
      have I2 : Inv X pins σ H1 { s1 with heap := h' } := I1.kept (t' := s1.toks) hk
      exact ⟨s1.heap.objs.size + 1, [s1.heap.objs.size + 1, s1.heap.objs.size], _, _, H1, rfl, I2, turn_enumU a (s1.heap.objs.size + 1) s1.heap.objs.size, ⟨⟨.none, he⟩, ⟨_, hit, rfl, rfl⟩, Nat.succ_ne_self _⟩, fresh, q⟩
/-- for i, x in enumerate(list) -/
theorem for_enL {K : PySem.W.Frag} {a : Addr} {xs : List V} {g : TG} {tb : TS} {D : Ends} {σ : L2.St} {H : Hp} (Pv : Nat → L2.St → Hp → Prop) (h0 : Pv 0 σ H) (hl : ∀ i σ H, i ≤ xs.length → Pv i σ H → SqL K H a xs)
    (hs : ∀ (i : Nat) x (T : Addr) σ H, xs[i]? = some x → Pv i σ H → H T = none → g (.ref T) σ (upd H T (.tup [.int (i : Nat), x])) fun σ2 H2 => tb { D with nx := Pv (i + 1), ct := Pv (i + 1), bk := D.nx } σ2 H2) (hd : ∀ σ H, Pv xs.length σ H → D.nx σ H) :
    ∃ W : Nat → Nat → L2.St → Hp → Prop, (∃ m, W 0 m σ H) ∧ ∀ i m σ H, W i m σ H →
      ((Ite K a).stop i H ∧ D.nx σ H) ∨ ((Ite K a).go i H ∧ ∃ N : L2.St → Hp → Prop, (∀ σ' H', N σ' H' → ∃ m', m' < m ∧ W (i + 1) m' σ' H') ∧ ∀ x H', (Ite K a).yld i H x H' → g x σ H' fun σ2 H2 => tb { D with nx := N, ct := N, bk := D.nx } σ2 H2) := by
  refine ⟨fun i m σ H => m = xs.length - i ∧ i ≤ xs.length ∧ Pv i σ H, ⟨xs.length, by simp, Nat.zero_le _, h0⟩, ?_⟩
  rintro i m σ H ⟨rfl, hi, p⟩
  have q := hl i σ H hi p
  by_cases hlt : i < xs.length
  · refine .inr ⟨⟨xs, xs[i], q, by simp [hlt]⟩, Pv (i + 1), fun σ' H' p' => ⟨xs.length - (i + 1), by omega, rfl, hlt, p'⟩, fun x H' y => ?_⟩
    obtain ⟨T, x, rfl, nT, rfl, y⟩ := y
    exact hs i x T σ _ (y xs q) p nT
  · have e : i = xs.length := by omega
    subst e
    exact .inl ⟨⟨xs, q, Nat.le_refl _⟩, hd σ H p⟩
theorem for_enT {K : PySem.W.Frag} {a : Addr} {xs : List V} {g : TG} {tb : TS} {D : Ends} {σ : L2.St} {H : Hp} (Pv : Nat → L2.St → Hp → Prop) (h0 : Pv 0 σ H) (hl : ∀ i σ H, i ≤ xs.length → Pv i σ H → SqT K H a xs)
    (hs : ∀ (i : Nat) x (T : Addr) σ H, xs[i]? = some x → Pv i σ H → H T = none → g (.ref T) σ (upd H T (.tup [.int (i : Nat), x])) fun σ2 H2 => tb { D with nx := Pv (i + 1), ct := Pv (i + 1), bk := D.nx } σ2 H2) (hd : ∀ σ H, Pv xs.length σ H → D.nx σ H) :
    ∃ W : Nat → Nat → L2.St → Hp → Prop, (∃ m, W 0 m σ H) ∧ ∀ i m σ H, W i m σ H →
      ((Ieu K a).stop i H ∧ D.nx σ H) ∨ ((Ieu K a).go i H ∧ ∃ N : L2.St → Hp → Prop, (∀ σ' H', N σ' H' → ∃ m', m' < m ∧ W (i + 1) m' σ' H') ∧ ∀ x H', (Ieu K a).yld i H x H' → g x σ H' fun σ2 H2 => tb { D with nx := N, ct := N, bk := D.nx } σ2 H2) := by
  refine ⟨fun i m σ H => m = xs.length - i ∧ i ≤ xs.length ∧ Pv i σ H, ⟨xs.length, by simp, Nat.zero_le _, h0⟩, ?_⟩
  rintro i m σ H ⟨rfl, hi, p⟩
  have q := hl i σ H hi p
  by_cases hlt : i < xs.length
  · refine .inr ⟨⟨xs, xs[i], q, by simp [hlt]⟩, Pv (i + 1), fun σ' H' p' => ⟨xs.length - (i + 1), by omega, rfl, hlt, p'⟩, fun x H' y => ?_⟩
    obtain ⟨T, x, rfl, nT, rfl, y⟩ := y
    exact hs i x T σ _ (y xs q) p nT
  · have e : i = xs.length := by omega
    subst e
    exact .inl ⟨⟨xs, q, Nat.le_refl _⟩, hd σ H p⟩
/-- for i, x in enumerate(row) -/
theorem for_enR {K : PySem.W.Frag} {a : Addr} {xs : List V} {g : TG} {tb : TS} {D : Ends} {σ : L2.St} {H0 H : Hp} (hr : SqL K H0 a xs ∨ SqT K H0 a xs) (Pv : Nat → L2.St → Hp → Prop) (h0 : Pv 0 σ H)
    (keep : ∀ i σ' H', Pv i σ' H' → ∀ o, H0 a = some o → H' a = some o)
    (hs : ∀ (i : Nat) x (T : Addr) σ H, xs[i]? = some x → Pv i σ H → H T = none → g (.ref T) σ (upd H T (.tup [.int (i : Nat), x])) fun σ2 H2 => tb { D with nx := Pv (i + 1), ct := Pv (i + 1), bk := D.nx } σ2 H2) (hd : ∀ σ H, Pv xs.length σ H → D.nx σ H) :
    ((∃ ys, SqL K H a ys) ∧ (∃ W : Nat → Nat → L2.St → Hp → Prop, (∃ m, W 0 m σ H) ∧ ∀ i m σ H, W i m σ H → ((Ite K a).stop i H ∧ D.nx σ H) ∨ ((Ite K a).go i H ∧ ∃ N : L2.St → Hp → Prop, (∀ σ' H', N σ' H' → ∃ m', m' < m ∧ W (i + 1) m' σ' H') ∧ ∀ x H', (Ite K a).yld i H x H' → g x σ H' fun σ2 H2 => tb { D with nx := N, ct := N, bk := D.nx } σ2 H2))) ∨
    ((∃ ys, SqT K H a ys) ∧ (∃ W : Nat → Nat → L2.St → Hp → Prop, (∃ m, W 0 m σ H) ∧ ∀ i m σ H, W i m σ H → ((Ieu K a).stop i H ∧ D.nx σ H) ∨ ((Ieu K a).go i H ∧ ∃ N : L2.St → Hp → Prop, (∀ σ' H', N σ' H' → ∃ m', m' < m ∧ W (i + 1) m' σ' H') ∧ ∀ x H', (Ieu K a).yld i H x H' → g x σ H' fun σ2 H2 => tb { D with nx := N, ct := N, bk := D.nx } σ2 H2))) := by
  rcases hr with h | h
  · exact .inl ⟨⟨_, seqL_at (keep 0 _ _ h0) h⟩, for_enL (K := K) (a := a) (xs := xs) Pv h0 (fun i σ' H' _ p => seqL_at (keep i σ' H' p) h) hs hd⟩
  · exact .inr ⟨⟨_, seqT_at (keep 0 _ _ h0) h⟩, for_enT (K := K) (a := a) (xs := xs) Pv h0 (fun i σ' H' _ p => seqT_at (keep i σ' H' p) h) hs hd⟩
/-! ### a op1 b op2 c op3 d -/
def tChain3 (r r' r'' : R2) (ta tb tc td : TE) : TE := fun σ H Q => ta σ H fun x H1 => tb σ H1 fun y H2 => r x y H2 fun z H3 => ∃ k, z = .bl k ∧
  (if k = true then tc σ H3 fun w' H4 => r' y w' H4 fun z' H5 => ∃ k', z' = .bl k' ∧ (if k' = true then td σ H5 fun w'' H6 => r'' w' w'' H6 Q else Q (.bl false) H5) else Q (.bl false) H3)
section
variable {X : Cx} {a b c d : Expr} {ta tb tc td : TE} {pos : Pos}
theorem pt_chain3 {op op' op'' : CmpOp} {r r' r'' : R2} (ho : OpR X (compareOp op) r) (ho' : OpR X (compareOp op') r') (ho'' : OpR X (compareOp op'') r'') (ha : PE X a ta) (hb : PE X b tb) (hc : PE X c tc) (hd : PE X d td)
    (hm : lastMarks [op, op', op''] [b, c, d] = false := by with_unfolding_all rfl) : PT X (.Compare a [op, op', op''] [b, c, d] pos) (tTest (tChain3 r r' r'' ta tb tc td)) := by
  refine ⟨fun pins s σ H Q I h => ?_⟩
  refine isTrue_chain (thn (ha.run pins s σ H _ I h) fun v s1 ⟨x, H1, I1, r1, q1⟩ => test_link (thn (hb.run pins s1 σ H1 _ I1 q1) fun u s2 ⟨y, H2, I2, r2, q2⟩ =>
    thn (ho pins s2 σ H2 x y v u _ I2 r1 r2 q2) fun d s3 ⟨z, H3, I3, r3, k, e, q3⟩ => ?_)) hm
  subst e
  cases r3
  refine wpAny_truthy_bool ?_
  cases k with
  | false =>
    obtain ⟨k', e', q'⟩ := q3
    cases e'
    exact ite_ff ⟨H3, I3, q'⟩
  | true =>
    refine ite_tt (test_link (thn (hc.run pins s3 σ H3 _ I3 q3) fun w' s4 ⟨z', H4, I4, r4, q4⟩ => thn (ho' pins s4 σ H4 y z' u w' _ I4 r2 r4 q4) fun d' s5 ⟨z2, H5, I5, r5, k2, e2, q5⟩ => ?_))
    subst e2
    cases r5
    refine wpAny_truthy_bool ?_
    cases k2 with
    | false =>
      obtain ⟨k', e', q'⟩ := q5
      cases e'
      exact ite_ff ⟨H5, I5, q'⟩
    | true =>
      refine ite_tt (test_last (thn (hd.run pins s5 σ H5 _ I5 q5) fun w3 s6 ⟨z3, H6, I6, r6, q6⟩ => thn (ho'' pins s6 σ H6 z' z3 w' w3 _ I6 r4 r6 q6) fun d3 s7 ⟨z4, H7, I7, r7, k3, e3, q7⟩ => ?_))
      subst e3
      cases r7
      exact wpAny_truthy_bool ⟨H7, I7, q7⟩
end
end G3

set_option Elab.async false
set_option linter.all false
set_option maxRecDepth 100000
set_option maxHeartbeats 4000000
/-! sorted(d.items()) of a dict of ints with int keys; classes. -/
namespace L2.DX
open PySem PySem.Spec PyProof.Rows
abbrev entI (e : Int × Int) : L2.Key × V := (Sum.inl e.1, V.int e.2)
section
variable {X : Cx}
def rItemsK : V → List V → Hp → VK → Prop := fun x xs H Q => ∃ (a : Addr) (kvs : List (L2.Key × V)), x = .ref a ∧ xs = [] ∧ H a = some (.dK kvs) ∧ ∀ p, H p = none → Q (.ref p) (upd H p (itemsO p a))
theorem mt_itemsK : MtR X "dict.items" rItemsK := by
  intro pins s σ H x xs v us Q I rx rxs h
  obtain ⟨a, kvs, rfl, rfl, ha, q⟩ := h
  cases rx
  cases rxs
  obtain ⟨z, hd, vs, kv, o, es, ep, ho, hx, hdat, _⟩ := dk_of I.hok ha
  refine DT.callItems (es := es) (ep := ep) hd ⟨o, ho, hx, hdat⟩ ?_
  have hf : H s.heap.objs.size = none := I.hok.fresh (Nat.le_refl _)
  exact ⟨.ref s.heap.objs.size, upd H s.heap.objs.size (itemsO s.heap.objs.size a), I.laid (t' := s.toks) (fun b u e => Heap.get?_push_of_some _ e) (Nat.le_refl _) (itemsO_ok (Heap.get?_push_size _ rfl)), rfl, q _ hf⟩
/-- keys and values are ints -/
def rSortItI : List V → Hp → VK → Prop := fun vs H Q => ∃ (p a : Addr) (ks : List (Int × Int)), vs = [.ref p] ∧ H p = some (itemsO p a) ∧ H a = some (.dK (ks.map entI)) ∧
  ∀ (H' : Hp) (l : Addr) (zs : List (Addr × Int × Int)), (∀ b o, H b = some o → H' b = some o) → H l = none → (zs.map (·.2)).Perm ks → (zs.map (·.2)).Pairwise (fun e f => e.1 ≤ f.1) → H' l = some (.lst (zs.map fun z => V.ref z.1)) →
    (∀ z ∈ zs, H z.1 = none ∧ H' z.1 = some (.tup [.int z.2.1, .int z.2.2])) → Q (.ref l) H'
theorem pairs_ents {P : Program} {w : World} : ∀ {es : List DictEntry} {ks : List (Int × Int)} {vs : List (L2.Key × Value)}, Pairs (mixKind P w) es vs → KV (ks.map entI) vs → ∀ (j : Nat) (e : DictEntry), es[j]? = some e →
    ∃ (x : Int × Int) (t u : Tok), ks[j]? = some x ∧ e.key = .int x.1 t ∧ e.val = .int x.2 u
  | [], _, _, _, _, j, e, h => nomatch h
  | e0 :: es, [], _, hp, hk, j, e, h => by cases hk; cases hp
  | e0 :: es, k :: ks, _, hp, hk, j, e, h => by
    cases hp with
    | cons h1 h2 hp =>
      cases hk with
      | cons r hk =>
        cases j with
        | zero =>
          obtain rfl := Option.some.inj h
          obtain ⟨r1, r2⟩ := r
          have r1 : Sum.inl k.1 = _ := r1
          rw [← r1] at h1
          obtain ⟨t, ht⟩ : ∃ t, e0.key = .int k.1 t := Value.isInt_shape h1
          obtain ⟨u, hu⟩ := r2
          exact ⟨k, t, u, rfl, ht, h2.trans hu⟩
        | succ j => exact pairs_ents hp hk j e h
def pairK (h : Heap) : Value → Int × Int
  | .ref b => match h.get? b with
    | some o => match o.data with
      | .seq its _ => match its.toList with
        | [.int x _, .int y _] => (x, y)
        | _ => (0, 0)
      | _ => (0, 0)
    | none => (0, 0)
  | _ => (0, 0)
theorem cr_sortedItemsI (hc : X.calm = true) : CallR X (.builtin "sorted") rSortItI := by
  intro pins s σ H xs us Q I r h
  obtain ⟨p, a, ks, rfl, hp, ha, q⟩ := h
  obtain rfl := Vals.ref1 r
  have view : s.heap.IsItemsView p a := (show ObjOk X.prog X.w H s.heap p (itemsO p a) from I.hok p _ hp).1
  obtain ⟨z, hd, vs, kv, o, es, ep, ho, hx, hdat, hks, hprs, hnd⟩ := dk_of I.hok ha
  have l1 : (ks.map entI).length = vs.length := Paired.length kv
  rw [List.length_map] at l1 z
  have l2 : es.toList.length = vs.length := hprs.length
  have l2 : es.size = vs.length := by rw [← l2]; simp
  have hh : X.A.handled = none := I.ok.hd hc
  refine DT.sortedI (es := es) (ep := ep) hh view ⟨o, ho, hx, hdat⟩ (by omega) fun h' tk as hk hlt hl hG => ?_
  have lak : as.length = ks.length := by omega
  have nd : as.Nodup := List.Pairwise.imp (fun h => Nat.ne_of_lt h) hG.rise
  have pr : ∀ (j : Nat) (b : Addr), as[j]? = some b → ∃ (e : Int × Int) (t u : Tok), ks[j]? = some e ∧ h'.get? b = some { cls := .type "tuple", data := .seq #[.int e.1 t, .int e.2 u] } := by
    intro j b hj
    obtain ⟨en, he, hg⟩ := hG.pairs j b hj
    obtain ⟨x, t, u, h1, h2, h3⟩ := pairs_ents hprs kv j en (by rw [Array.getElem?_toList]; exact he)
    rw [h2, h3] at hg
    exact ⟨x, t, u, h1, hg⟩
  have hob : (h'.push { cls := .type "list", data := .seq (as.map Value.ref).toArray }).get? h'.objs.size = some (seqObj "list" (as.map Value.ref).toArray 0) := Heap.get?_push_size _ rfl
  have kb : ∀ b o, s.heap.get? b = some o → (h'.push { cls := .type "list", data := .seq (as.map Value.ref).toArray }).get? b = some o := fun b o e => Heap.get?_push_of_some _ (hk b o e)
  have ne0 : ∀ b o, h'.get? b = some o → b ≠ h'.objs.size := fun b o e => Nat.ne_of_lt (Heap.lt_size e)
  generalize hh2 : h'.push { cls := .type "list", data := .seq (as.map Value.ref).toArray } = h2 at hob kb ⊢
  have ka : ∀ b o, h'.get? b = some o → h2.get? b = some o := fun b o e => by rw [← hh2]; exact Heap.get?_push_of_some _ e
  have at_ : ∀ v ∈ as.map Value.ref, ∃ (j : Nat) (b : Addr) (e : Int × Int), v = .ref b ∧ as[j]? = some b ∧ ks[j]? = some e ∧ pairK h2 v = e ∧ Srt.IsPair h2 v e.1 e.2 := by
    intro v hv'
    obtain ⟨b, hb, rfl⟩ := List.mem_map.mp hv'
    obtain ⟨j, hj⟩ := List.mem_iff_getElem?.mp hb
    obtain ⟨e, t, u, he, hg⟩ := pr j b hj
    have hg2 := ka _ _ hg
    exact ⟨j, b, e, rfl, hj, he, by simp only [pairK, hg2], b, _, t, u, _, rfl, hg2, rfl, rfl⟩
  have hsz : (as.map Value.ref).length ≤ sizeLine := by rw [List.length_map]; omega
  refine wpAny_call_entry PyProof.Rows.slot_list_sort ⟨_, hob, rfl⟩ PyProof.Rows.entry_list_sort
    (SrtO.list_sort_ord (s := { s with heap := h2, toks := tk }) (SrtO.swo_lex (pairK h2)) hob hsz (fun h2' => ?_) fun out o1 o2 => ⟨.none, rfl, ?_⟩) (PyProof.Rows.args_list_sort _)
  · refine SrtO.pairs_sortableO (s := { s with heap := h2, toks := tk }) (by omega) (fun v hv' => ?_) fun o e => ?_
    · obtain ⟨j, b, e, rfl, _, _, ek, hp'⟩ := at_ v hv'
      rw [ek]; exact hp'
    · have e' : some o = some (seqObj "list" (as.map Value.ref).toArray 0) := e.symm.trans hob
      cases e'
      intro c
      exact absurd (Value.type.inj c) (by decide)
  · show EP X pins σ Q (.ref h'.objs.size) { s with heap := sortedHeap h2 h'.objs.size (as.map Value.ref) out.toArray, toks := tk }
    obtain ⟨zs, pz, ez⟩ := perm_lift (fun z : Addr × Int × Int => Value.ref z.1) o2.perm (as.zip ks) (by
      have : (as.zip ks).map (fun z : Addr × Int × Int => Value.ref z.1) = ((as.zip ks).map Prod.fst).map Value.ref := by rw [List.map_map]; rfl
      rw [this, List.map_fst_zip (by omega)])
    have idx : ∀ z ∈ zs, ∃ j : Nat, as[j]? = some z.1 ∧ ks[j]? = some z.2 := by
      intro z' hz'
      obtain ⟨j, hj⟩ := List.mem_iff_getElem?.mp (pz.mem_iff.mp hz')
      exact ⟨j, List.getElem?_zip_eq_some.mp hj⟩
    have hperm : (zs.map (·.2)).Perm ks := by
      have e := pz.map (·.2)
      have m2 : (as.zip ks).map (·.2) = ks := List.map_snd_zip (by rw [lak]; exact Nat.le_refl _)
      rw [m2] at e
      exact e
    have hkz : ∀ z ∈ zs, pairK h2 (.ref z.1) = z.2 := by
      intro z' hz'
      obtain ⟨j, j1, j2⟩ := idx z' hz'
      obtain ⟨i, b, e, eb, i1, i2, ek, _⟩ := at_ (.ref z'.1) (List.mem_map.mpr ⟨_, List.mem_of_getElem? j1, rfl⟩)
      injection eb with eb
      rw [← eb] at i1
      have eij : i = j := (List.getElem?_inj (List.getElem?_eq_some_iff.mp i1).1 nd).mp (i1.trans j1.symm)
      subst eij
      exact ek.trans (Option.some.inj (i2.symm.trans j2))
    have hsort : (zs.map (·.2)).Pairwise (fun e f => e.1 ≤ f.1) := by
      have o1' : out.Pairwise _ := o1
      rw [← ez, List.pairwise_map] at o1'
      rw [List.pairwise_map]
      refine List.Pairwise.imp_of_mem (fun {x y} hx hy h => ?_) o1'
      have h := SrtO.lexB_no.mp h
      rw [hkz x hx, hkz y hy] at h
      show x.2.1 ≤ y.2.1
      omega
    have kF : ∀ b o, b ≠ h'.objs.size → h2.get? b = some o → (sortedHeap h2 h'.objs.size (as.map Value.ref) out.toArray).get? b = some o := fun b o hb e => (PyProof.Rows.sortedHeap_old hb (Heap.lt_size e)).trans e
    have kS : ∀ b o, s.heap.get? b = some o → (sortedHeap h2 h'.objs.size (as.map Value.ref) out.toArray).get? b = some o := fun b o e => kF b o (ne0 _ _ (hk b o e)) (kb b o e)
    obtain ⟨eF, heF⟩ := PyProof.Rows.sortedHeap_at (vs := as.map Value.ref) (out := out.toArray) hob
    have I1 : Inv X pins σ H { s with heap := sortedHeap h2 h'.objs.size (as.map Value.ref) out.toArray, toks := tk } := I.kept (t' := tk) kS
    have hn0 : H h'.objs.size = none := I.hok.fresh (Nat.le_of_lt hlt)
    have hlen : (zs.map fun z => V.ref z.1).length ≤ sizeLine := by
      have e := hperm.length_eq
      rw [List.length_map] at e
      rw [List.length_map]
      omega
    have rv : Vals (zs.map fun z => V.ref z.1) out.toArray.toList := by
      rw [List.toList_toArray, ← ez]
      exact vals_maps (fun z : Addr × Int × Int => V.ref z.1) (fun z => Value.ref z.1) zs fun _ _ => rfl
    have I2 : Inv X pins σ (upd H h'.objs.size (.lst (zs.map fun z => V.ref z.1))) { s with heap := sortedHeap h2 h'.objs.size (as.map Value.ref) out.toArray, toks := tk } :=
      I1.take (h' := sortedHeap h2 h'.objs.size (as.map Value.ref) out.toArray) (t' := tk) (fun b ob _ e => e) (I.fpOk (Nat.le_of_lt hlt) hn0) ⟨hlen, out.toArray.toList, eF, rv, heF⟩
    obtain ⟨H2, I3, g, qt⟩ := takeT (P := fun b vs => ∃ (j : Nat) (e : Int × Int), as[j]? = some b ∧ ks[j]? = some e ∧ vs = [.int e.1, .int e.2] ∧ H b = none) I as _ I2 nd fun b hb => by
      obtain ⟨j, hj⟩ := List.mem_iff_getElem?.mp hb
      obtain ⟨e, t, u, he, hg⟩ := pr j b hj
      have hbl : s.heap.objs.size ≤ b := Nat.le_of_lt (hG.above b hb)
      refine ⟨hbl, ?_, [.int e.1, .int e.2], ⟨j, e, hj, he, rfl, I.hok.fresh hbl⟩, fun H3 => ⟨(by rw [sizeLine_eq]; show 2 ≤ 16777216; omega), [Value.int e.1 t, Value.int e.2 u], .cons ⟨_, rfl⟩ (.cons ⟨_, rfl⟩ .nil), ⟨_, kF _ _ (ne0 _ _ hg) (ka _ _ hg), rfl, 0, rfl⟩⟩⟩
      rw [upd_ne (ne0 _ _ hg)]
      exact I.hok.fresh hbl
    have gr : ∀ b o, H b = some o → H2 b = some o := fun b o e => g b o (by rw [upd_ne (ne_of_none e hn0)]; exact e)
    refine ⟨.ref h'.objs.size, H2, I3, rfl, q H2 h'.objs.size zs gr hn0 hperm hsort (g _ _ upd_same) fun z' hz' => ?_⟩
    obtain ⟨i, i1, i2⟩ := idx z' hz'
    obtain ⟨vs, ⟨j, e, j1, j2, ev, hn⟩, hH⟩ := qt z'.1 (List.mem_of_getElem? i1)
    have eij : i = j := (List.getElem?_inj (List.getElem?_eq_some_iff.mp i1).1 nd).mp (i1.trans j1.symm)
    subst eij
    have ee : e = z'.2 := Option.some.inj (j2.symm.trans i2)
    rw [ev, ee] at hH
    exact ⟨hn, hH⟩
end
end L2.DX

namespace G3
open PySem PySem.Spec PyProof.Rows L2
/-! ### classes -/
def MkAt (K : PySem.W.Frag) (mg : Str → Option Value) (x : Str) (C : Addr) (nm qn : Str) (st : Stmt) : Prop := ∃ f fd, Fun K nm qn st f fd ∧ Mk K C f ∧ mg x = some (.ref C)
def HasMk (P : Program) (w : World) (K : PySem.W.Frag) (mg : Str → Option Value) (base : Heap) (CX : CXT) (k : Nat) (x : Str) (C : Addr) (ps : List Str) (sp : Sp) : Prop :=
  ∃ f fd, FnOk P w K mg base CX k f fd ps sp ∧ Mk K C f ∧ mg x = some (.ref C) ∧ Binds K fd ps []
section
variable {P : Program} {w : World} {K : PySem.W.Frag} {mg : Str → Option Value} {base : Heap} {k : Nat} {x : Str} {C : Addr} {ps : List Str} {sp : Sp}
theorem hasMk_of {nm qn : Str} {st : Stmt} {N : List Str} (D : MkAt K mg x C nm qn st) (S : FnScope N ps (defScope st))
    (hb : ∀ (kV doc pm : Value) (an : Option Addr) (cdv ct : Value) (us : List Value), us.length = ps.length → bindArgs (PySem.W.fnOf nm qn (defArgs st) (defBody st) (defScope st) .none kV doc pm an cdv ct) ⟨us, []⟩ = pure (ps.zip us))
    (len : ∀ vs H Q E, sp vs H Q E → vs.length = ps.length)
    (hbody : ∀ (f : Addr) (cdv : Value) (A : Around) (outer : List Env) (s : Shared) (H : Hp) (vs : List V) (Q : VK) (E : XK), Room k (A.deeper (envOfC qn (defScope st) s.heap.objs.size f cdv)) → sp vs H Q E →
      ∃ t, PSs (cxOf CX0 P w K mg base N qn (defScope st) f cdv A outer s H E).nox (defBody st) t ∧ t { nx := fun _ H' => Q .non H', rt := Q } (start N vs) H) : HasMk P w K mg base CX0 (k + 1) x C ps sp := by
  obtain ⟨f, fd, F, M, m⟩ := D
  exact ⟨f, fd, F.ok S len (fun cdv A outer s H vs Q E hr hs => hbody f cdv A outer s H vs Q E hr hs), M, m, F.binds hb⟩
end
theorem pe_makeH {X : Cx} {CX : CXT} {k j : Nat} {x : Str} {C : Addr} {ps : List Str} {sp : Sp} {E : XK} {p pos : Pos} {e : Expr} {es : List Expr} {t : TA} (h : HasMk X.prog X.w X.K X.mg X.base CX k x C ps sp) (hr : Room j X.A) (hx : Passes CX X E)
    (ha : PA X (e :: es) t) (hk : k + 1 ≤ j := by first | decide | omega) (hg : Gl X x := by rfl) (hdb : (x == ("__debug__" : Str)) = false := by decide) (he : starEach (e :: es) X.env = (false, eval e X.env) :: starEach es X.env := by rfl) (hpl : (backTo pos (starEach es X.env)).any (·.1) = false := by rfl) :
    PE X (.Call (.Name x p) (e :: es) [] pos) (tMake C sp [] E t) := by
  obtain ⟨f, fd, F, M, m, b⟩ := h
  exact pe_make M F (hr.mono hk) hg m b .nil hx ha hdb he hpl
theorem sortPK {X : Cx} {K : PySem.W.Frag} (h : X.K = K) : CallR X (.builtin "sorted") (rSortedPO K) := h ▸ cr_sortedPO
theorem bm0N {X : Cx} {K : PySem.W.Frag} (hK : X.K = K) {o : Expr} {to : TE} {name : Str} {apos cpos : Pos} {T id : String} {r : V → List V → Hp → VK → Prop} (pa : PlainAttrs T) (slot : Slot T name id) (hty : typeOf (.builtin id) = pure (.type "method_descriptor")) (hm : MtR X id r) (ho : PE X o to)
    (hbase : attributeBase o name X.env (eval o X.env) = eval o X.env := by rfl) (hline : (apos.endLine == cpos.line) = true := by rfl) : PE X (.Call (.Attribute o name apos) [] [] cpos) (tBM0 K T r to) := by
  subst hK
  exact pe_bm0 pa slot hty hm ho hbase hline
end G3

set_option Elab.async false
set_option linter.all false
set_option maxRecDepth 100000
set_option maxHeartbeats 4000000
/-! isinstance(e, C) of a caught error e, where the answer is yes by e's class: it may have a dict. -/
namespace PySem.W
open PySem PySem.Spec PySem.Calls PyProof.Rows
/-- yes, by the type alone -/
theorem g3_yes {K : Frag} {x t c : Value} {H : Heap → Prop} (ty : ∀ (M : Model) (h : Heap), K.In h → H h → Looks M h (typeOf x) t) (e : kitOne K t c = some true) : Answers (fun s => K.In s.heap ∧ H s.heap) x c true := by
  intro dep tk prog w A R s hs
  obtain ⟨h0, g, d, tt, os⟩ := s
  obtain ⟨⟨X, p⟩, hq⟩ := hs
  have LT := ty (model prog w) h0 X p
  unfold Builtin.«isinstance.nested»
  refine wpAny_bind (LT.at ?_)
  by_cases q : (t == c) = true
  · rw [if_pos q]
    first
      | exact wpAny_bind (wpAny_rule (hq tt))
      | exact wpAny_bind (wpAny_rule (wpAny_pure (hq tt)))
  · unfold kitOne at e
    rw [if_neg q] at e
    rw [if_neg q]
    obtain ⟨hty, his, hsub⟩ := kit_cls (M := model prog w) X e
    have LI : Looks (model prog w) h0 (isInstance x c) true := LT.andThen hsub
    refine wpAny_bind (hty.at ?_)
    rw [if_pos (by decide)]
    k_delta "plainIsInstance"
    refine wpAny_bind (wpAny_bind (his.at ?_))
    simp only [Bool.not_true, Bool.false_eq_true, if_false]
    refine wpAny_bind (LI.at ?_)
    first
      | exact wpAny_pure (wpAny_pure (hq tt))
      | (simp only [if_true]; first | exact wpAny_pure (wpAny_pure (hq tt)) | exact wpAny_pure (hq tt) | exact wpAny_bind (wpAny_pure (wpAny_pure (hq tt))))
end PySem.W
namespace L2
open PySem PySem.Spec PyProof.Rows
def rIsT (K : PySem.W.Frag) (cls : Value) (a : Addr) : List V → Hp → VK → Prop := fun xs H Q => ∃ (c : V) (cv : Value), xs = [.ref a, c] ∧ (∀ u, RelV c u → u = cv) ∧ PySem.W.kitOne K cls cv = some true ∧ Q (.bl true) H
theorem call_isT {X : Cx} {K : PySem.W.Frag} (hK : X.K = K) {a : Addr} {oe : Obj} {cls : Value} {d : Option Addr} {pn : List (Addr × Obj)} (hz : Zc cls d oe) : CallR (X.suite a ((a, oe) :: pn)) (.builtin "isinstance") (rIsT K cls a) := by
  subst hK
  intro pins s σ H xs us Q I r h
  obtain ⟨c, cv, rfl, hcv, e, q⟩ := h
  cases r with
  | cons rx rr =>
    cases rr with
    | cons rt rr =>
      cases rr
      cases rx
      have ec := hcv _ rt
      subst ec
      obtain ⟨hget, _⟩ := I.pin (a, oe) (List.mem_append.mpr (.inl List.mem_cons_self))
      have hty : ∀ (M : Model) (h : Heap), X.K.In h → h.get? a = some oe → PySem.W.Looks M h (typeOf (.ref a)) cls := fun M h _ p A Q E t k q => wpAny_typeOf_ref (k _ _ p) (by rw [hz.1]; exact q)
      exact call_isinstance (S := fun _ R s => (X.K.In s.heap ∧ s.heap.get? a = some oe) ∧ ∀ tk, R (.ok (.ret (.bool true))) { s with toks := tk })
        (fun prog w A R s hs => isinstance_outer (PySem.W.g3_yes (H := fun h => h.get? a = some oe) hty e 0 _ prog w A R s hs) (fun z => nomatch z)) ⟨⟨I.kIn, hget⟩, fun tk => ⟨.bl true, H, I.kept (t' := tk) fun _ _ z => z, rfl, q⟩⟩
end L2

set_option Elab.async false
set_option linter.all false
set_option maxRecDepth 100000
set_option maxHeartbeats 4000000
/-! Defs that are called where no repr is under way; repr of data. -/
namespace L2
open PySem PySem.Spec PyProof.Rows
/-- a def's promise, where no repr is under way -/
structure FnG (P : Program) (w : World) (K : PySem.W.Frag) (mg : Str → Option Value) (base : Heap) (CX : CXT) (k : Nat) (f : Addr) (fd : FuncData) (ps : List Str) (sp : Sp) : Prop where
  len : ∀ vs H Q E, sp vs H Q E → vs.length = ps.length
  run : ∀ (A : Around) (outer : List Env) (s : Shared) (H : Hp) (args : Args) (us : List Value) (vs : List V) (Q : VK) (E : XK), A.guards = some [] → Room k A → Env0 P w K mg base A outer s H → BindsTo s fd args (ps.zip us) → Vals vs us → sp vs H Q E →
    codeAny (model P w) A (.call (.ref f) args) (CR CX outer P w H s Q E) s
theorem fnG_of {CX : CXT} {P : Program} {w : World} {K : PySem.W.Frag} {mg : Str → Option Value} {base : Heap} {k : Nat} {f : Addr} {name qual : Str} {params : Arguments} {body : List Stmt} {scope : Scope} {dV kV doc pm cdv ct oc : Value} {an od : Option Addr}
    {osl : Array (Option Value)} {N ps : List Str} {sp : Sp} (lk : K.lookup f = some ⟨oc, od, .func (PySem.W.fnOf name qual params body scope dV kV doc pm an cdv ct), osl⟩) (hcd : PySem.W.codeIn K cdv qual = true) (S : FnScope N ps scope)
    (len : ∀ vs H Q E, sp vs H Q E → vs.length = ps.length)
    (hbody : ∀ (A : Around) (outer : List Env) (s : Shared) (H : Hp) (vs : List V) (Q : VK) (E : XK), (A.deeper (envOfC qual scope s.heap.objs.size f cdv)).guards = some [] → Room k (A.deeper (envOfC qual scope s.heap.objs.size f cdv)) → sp vs H Q E →
      ∃ t, PSs (cxOf CX P w K mg base N qual scope f cdv A outer s H E) body t ∧ t { nx := fun _ H' => Q .non H', rt := Q } (start N vs) H) :
    FnG P w K mg base CX (k + 1) f (PySem.W.fnOf name qual params body scope dV kV doc pm an cdv ct) ps sp := by
  refine ⟨len, fun A outer s H args us vs Q E hgd hr e0 hb r hsp => ?_⟩
  have kx : K.In s.heap := e0.mod.kin.keeps fun b o e => (e0.bs b o e).1
  have nl : s.heap.NoLimit := e0.mod.nolimit.keeps fun b o e => (e0.bs b o e).1
  refine codeAny_call_function hr.depth (kx _ _ lk) rfl S.co S.gen rfl (PySem.W.codeRec_of kx hcd) (hb _ _ _ _ ?_)
  refine wpAny_newFunctionEnv_cells S.kind (fun ⟨n, v⟩ hy => ?_) fun env he s1 x => ?_
  · exact (S.par n (List.of_mem_zip hy).1).imp id fun q => ⟨q, PySem.W.cellsFrom_some _ _ _ (.inl q)⟩
  subst he
  refine ⟨nl.keeps x.toInCall.keep, codeAny_func ?_⟩
  obtain ⟨t, ht, hq⟩ := hbody A outer s H vs Q E hgd (hr.deeper _) hsp
  refine wpAny_mono (ht.run [] s1 (start N vs) H _ (inv_start S hr.hd e0 (len _ _ _ _ hsp) r x) hq) (fun fl s' hs => ?_) fun e s' hs => hs
  cases fl with
  | ret u =>
    obtain ⟨v, σ', H', J, rv, q⟩ := hs
    exact ⟨v, H', J.os, J.bare, J.base, J.hok, rv, q⟩
  | next =>
    obtain ⟨σ', H', J, q⟩ := hs
    exact ⟨V.non, H', J.os, J.bare, J.base, J.hok, rfl, q⟩
  | brk => exact hs.elim fun _ h => h.elim fun _ h => h.2.elim
  | cont => exact hs.elim fun _ h => h.elim fun _ h => h.2.elim
section
variable {X : Cx} {CX : CXT} {k : Nat} {f : Addr} {fd : FuncData} {ps : List Str} {sp : Sp} {E : XK} {x : Str} {p pos : Pos} {e : Expr} {es : List Expr} {t : TA}
theorem pe_callG (hgd : X.A.guards = some []) (F : FnG X.prog X.w X.K X.mg X.base CX k f fd ps sp) (hr : Room k X.A) (hg : Gl X x) (hm : X.mg x = some (.ref f)) (hk : PySem.W.keepIn X.K (.ref f) = true) (hb : Binds X.K fd ps []) (hx : Passes CX X E)
    (ha : PA X (e :: es) t) (hdb : (x == ("__debug__" : Str)) = false := by decide) (he : starEach (e :: es) X.env = (false, eval e X.env) :: starEach es X.env := by rfl) (hpl : (backTo pos (starEach es X.env)).any (·.1) = false := by rfl) :
    PE X (.Call (.Name x p) (e :: es) [] pos) (tCall sp [] E t) := by
  refine ⟨fun pins s σ H Q I h => ?_⟩
  refine wpAny_Call_Name_kw (ld_glob I hg hm ?_ hdb)
  refine PySem.W.callWith_K (h₀ := X.base) I.ok.mod.kin hk (thn (ha.run pos pins s σ H _ I h) fun us s1 ⟨vs, H1, I1, r, q⟩ => ⟨I1.kIn, ?_⟩) he hpl
  have r2 : Vals (vs ++ []) (us ++ []) := r.append .nil
  have hl : (us ++ []).length = ps.length := r2.length.symm.trans (F.len _ _ _ _ q)
  refine wpAny_call (codeAny_mono (F.run X.A X.stack s1 H1 ⟨us, []⟩ (us ++ []) (vs ++ []) Q E hgd hr I1.env0 (hb s1 us I1.kIn hl) r2 q) fun r s' hq => ?_)
  cases r with
  | error e => exact hx pins σ H1 s1 e s' I1 hq
  | ok fl =>
    cases fl with
    | ret u => exact I1.after hq
    | next => exact hq.elim
    | brk => exact hq.elim
    | cont => exact hq.elim
/-- repr(d), d lists and tuples of any depth of numbers of no great size -/
def rRepr (K : PySem.W.Frag) : List V → Hp → VK → Prop := fun xs H Q => ∃ (a : Addr) (d : PyData), xs = [.ref a] ∧ Dp K H (.ref a) d ∧ d.showable = true ∧ d.hasDict = false ∧ d.depth ≤ 60 ∧ d.shown.length ≤ sizeLine ∧ Q (.str d.shown) H
theorem call_reprD (hgd : X.A.guards = some []) (hu : X.A.units + 64 < cLine) : CallR X (.builtin "repr") (rRepr X.K) := by
  intro pins s σ H xs us Q I r h
  obtain ⟨a, d, rfl, hd, h1, h2, h3, h4, q⟩ := h
  obtain rfl := Vals.ref1 r
  obtain ⟨as, rd⟩ := Dp.reads I d (.ref a) (.ref a) hd rfl
  exact repr_of_reads' rd h1 (PyData.noDict_hsm h2) hgd (by omega) (fun _ _ e => e) (fun h' u tk hk => ⟨.str _, H, I.kept (t' := tk) hk, ⟨_, rfl⟩, q⟩) h4
end
end L2
namespace G3
open PySem PySem.Spec PyProof.Rows L2
def HasG (P : Program) (w : World) (K : PySem.W.Frag) (mg : Str → Option Value) (base : Heap) (CX : CXT) (k : Nat) (x : Str) (ps : List Str) (sp : Sp) : Prop :=
  ∃ f fd, FnG P w K mg base CX k f fd ps sp ∧ mg x = some (.ref f) ∧ PySem.W.keepIn K (.ref f) = true ∧ Binds K fd ps []
theorem hasG_of {P : Program} {w : World} {K : PySem.W.Frag} {mg : Str → Option Value} {base : Heap} {k : Nat} {x nm : Str} {ps : List Str} {sp : Sp} {st : Stmt} {N : List Str} (D : DefAt K mg x nm st) (S : FnScope N ps (defScope st))
    (hb : ∀ (kV doc pm : Value) (an : Option Addr) (cdv ct : Value) (us : List Value), us.length = ps.length → bindArgs (PySem.W.fnOf nm nm (defArgs st) (defBody st) (defScope st) .none kV doc pm an cdv ct) ⟨us, []⟩ = pure (ps.zip us))
    (len : ∀ vs H Q E, sp vs H Q E → vs.length = ps.length)
    (hbody : ∀ (f : Addr) (cdv : Value) (A : Around) (outer : List Env) (s : Shared) (H : Hp) (vs : List V) (Q : VK) (E : XK), (A.deeper (envOfC nm (defScope st) s.heap.objs.size f cdv)).guards = some [] → Room k (A.deeper (envOfC nm (defScope st) s.heap.objs.size f cdv)) → sp vs H Q E →
      ∃ t, PSs (cxOf CX0 P w K mg base N nm (defScope st) f cdv A outer s H E).nox (defBody st) t ∧ t { nx := fun _ H' => Q .non H', rt := Q } (start N vs) H) : HasG P w K mg base CX0 (k + 1) x ps sp := by
  obtain ⟨f, fd, F, m⟩ := D
  obtain ⟨oc, od, kV, doc, pm, an, cdv, ct, osl, e, lk, hcd⟩ := F.ex
  have b := F.binds hb
  have kp := F.kp
  subst e
  refine ⟨f, _, fnG_of lk hcd S len fun A outer s H vs Q E hgd hr hs => ?_, m, kp, b⟩
  obtain ⟨t, h, q⟩ := hbody f cdv A outer s H vs Q E hgd hr hs
  exact ⟨t, h.nox, q⟩
theorem pe_hG {X : Cx} {CX : CXT} {k j : Nat} {x : Str} {ps : List Str} {sp : Sp} {E : XK} {p pos : Pos} {e : Expr} {es : List Expr} {t : TA} (hgd : X.A.guards = some []) (h : HasG X.prog X.w X.K X.mg X.base CX k x ps sp) (hr : Room j X.A) (hx : Passes CX X E)
    (ha : PA X (e :: es) t) (hk : k ≤ j := by first | decide | omega) (hg : Gl X x := by rfl) (hdb : (x == ("__debug__" : Str)) = false := by decide) (he : starEach (e :: es) X.env = (false, eval e X.env) :: starEach es X.env := by rfl) (hpl : (backTo pos (starEach es X.env)).any (·.1) = false := by rfl) :
    PE X (.Call (.Name x p) (e :: es) [] pos) (tCall sp [] E t) := by
  obtain ⟨f, fd, F, m, kp, b⟩ := h
  exact pe_callG hgd F (hr.mono hk) hg m kp b hx ha hdb he hpl
/-! ### how long a text of numbers is -/
theorem list_text (ts : List Str) : (listText ts).length ≤ piled ts + 2 := by
  have e2 : (("]" : String) : Str).length = 1 := rfl
  have e1 : (("[" : String) : Str).length = 1 := rfl
  unfold listText
  rw [strLen_append, e2]
  cases ts with
  | nil => show (("[" : String) : Str).length + 1 ≤ _; rw [e1]; omega
  | cons t ts =>
    show (textFrom 1 ((("[" : String) : Str) ++ (if 0 > 0 then ", " else "" : String) ++ t) ts).length + 1 ≤ _
    rw [textFrom_length_pos _ _ _ (by decide), strLen_append, strLen_append, e1, piled_cons]
    have : ((if 0 > 0 then ", " else "" : String) : Str).length = 0 := rfl
    rw [this]
    omega
end G3

set_option Elab.async false
set_option linter.all false
set_option maxRecDepth 100000
set_option maxHeartbeats 4000000
/-! sum(tuple of ints) -/
namespace PySem
section
variable {prog : Program} {w : World} {A : Around} {E : Value → Shared → Prop} {s : Shared} {l : Addr} {xs : Array (Int × Tok)}
theorem g3_sum_tup {Q : Value → Shared → Prop} (hh : A.handled = none) (hl : s.heap.IsTuple l (intItems xs))
    (h : ∀ h' tk t', (∀ b o, s.heap.get? b = some o → h'.get? b = some o) → Q (.int (preSum (numAt xs) xs.size) t') { s with heap := h', toks := tk }) :
    wpAny (model prog w) A (call (.builtin "sum") [.ref l]) Q E s := by
  have hlt : l < s.heap.objs.size := by obtain ⟨_, e, _⟩ := hl; exact Heap.lt_size e
  have hne : l ≠ s.heap.objs.size := Nat.ne_of_lt hlt
  refine call_sum_walkG (wpAny_pyIter_tuple hl ?_)
  refine ⟨_, _, _, _, _, _, numAt xs, rfl, Walks.tuple (A := A.in1) hh _ l hne (intItems xs), ⟨⟨_, Heap.get?_push_size _ rfl, rfl, rfl⟩, hl.push _⟩, fun b hb => ?_, (fun _ _ => intItems_at), fun h' tk t' hk => ?_⟩
  · show b < (s.heap.push _).objs.size
    rw [Heap.size_push]
    rcases List.mem_cons.mp hb with rfl | hb
    · exact Nat.lt_succ_self _
    · rcases List.mem_cons.mp hb with rfl | hb
      · exact Nat.lt_succ_of_lt hlt
      · cases hb
  · have := h h' tk t' fun b o e => hk b o (fun hm => by
      rcases List.mem_cons.mp hm with e1 | hm
      · exact absurd (e1 ▸ Heap.lt_size e) (Nat.lt_irrefl _)
      · cases hm) (Heap.get?_push_of_some _ e)
    simpa [intItems] using this
end
end PySem
namespace L2
open PySem PySem.Spec PyProof.Rows
def rSumT (K : PySem.W.Frag) : List V → Hp → VK → Prop := fun vs H Q => ∃ (a : Addr) (ns : List Int), vs = [V.ref a] ∧ SqT K H a (ns.map V.int) ∧ Q (.int ns.sum) H
theorem cr_sumT {X : Cx} (hc : X.calm = true) : CallR X (.builtin "sum") (rSumT X.K) := by
  intro pins s σ H vs us Q I r h
  obtain ⟨a, ns, rfl, hs, q⟩ := h
  obtain ⟨its, rv, p, _⟩ := I.tuple hs
  rw [Vals.ref1 r]
  have hi := rv.ints
  obtain ⟨xs, e⟩ := hi.allInts.items
  have hn : numsOf (intItems xs).toList = ns := by rw [← e]; exact hi.numsOf
  rw [nums_intItems] at hn
  have hl : s.heap.IsTuple a (intItems xs) := by rw [← e]; exact p
  refine PySem.g3_sum_tup (I.ok.hd hc) hl fun h' tk t' hk => ?_
  rw [preSum_eq, List.take_of_length_le (by simp), hn]
  exact ⟨.int _, H, I.kept hk, ⟨_, rfl⟩, q⟩
end L2

set_option Elab.async false
set_option linter.all false
set_option maxRecDepth 100000
set_option maxHeartbeats 4000000
/-! The head's end for a promise that holds where no repr is under way; facts of own errors with super().__init__. -/
namespace L2
open PySem PySem.Spec PyProof.Rows
theorem law_callG {P : Program} {w : World} {K : PySem.W.Frag} {mg mb : Str → Option Value} {CX : CXT} {k : Nat} {fa a : Addr} {x : Str} {sp : Sp} {s₁ : Shared} {vs : List Value} {ns : List Int}
    (KX : K.In s₁.heap) (hns : s₁.heap.Ns mainGlobals mg) (hb : s₁.heap.Ns builtinsNs mb) (hbb : ∀ x : Str, x ≠ "__name__" → mb x = bootBuiltins x) (hlim : s₁.heap.NoLimit) (hg : s₁.gens = #[])
    (ha : s₁.heap.get? a = some { cls := .type "list", data := .seq vs.toArray }) (hi : IntsAre vs ns) (hl : ns.length ≤ sizeLine) (hr : Room k callerA)
    (F : ∀ base : Heap, K.In base → base.Ns mainGlobals mg → ∃ fd, FnG P w K mg base CX k fa fd [x] sp ∧ Binds K fd [x] [])
    (hsp : ∀ H : Hp, Only H → SqL K H a (ns.map V.int) → sp [.ref a] H (fun v _ => v = .bl true) fun _ _ _ => False)
    (hCX : ∀ H e s', CX [] H s₁ (fun _ _ _ => False) e s' → False) :
    codeAny (model P w) callerA (.call (.ref fa) ⟨[.ref a], []⟩) (fun r s' => r = .ok (.ret (.bool true)) ∧ OldK s₁.heap s'.heap ∧ s'.os = s₁.os ∧ AllBare s'.gens) s₁ := by
  have rv := vals_ints hi
  -- for any H in which only the script may stand
  have main : ∀ H : Hp, Only H → SqL K H a (ns.map V.int) → HOk P w H s₁.heap → (∀ b, H b ≠ none → b = a) → (H a ≠ none → K.lookup a = none) →
      codeAny (model P w) callerA (.call (.ref fa) ⟨[.ref a], []⟩) (fun r s' => r = .ok (.ret (.bool true)) ∧ OldK s₁.heap s'.heap ∧ s'.os = s₁.os ∧ AllBare s'.gens) s₁ := by
    intro H hO hS hok hA hK
    have notIt : ∀ {b : Addr} {o : Obj} {es : Array DictEntry} {ep : Nat}, s₁.heap.get? b = some o → o.data = .dict es ep → H b = none := fun {b o es ep} e d => by
      by_cases z : H b = none
      · exact z
      · have e' := hA b z
        rw [e', ha] at e
        cases e
        cases (show Data.seq vs.toArray _ = Data.dict es ep from d)
    have nsK : ∀ {b : Addr} {m : Str → Option Value}, s₁.heap.Ns b m → (hidT s₁.heap H).Ns b m := fun {b m} ⟨o, es, ep, e, d, r⟩ => ⟨o, es, ep, hidT_get e (notIt e d), d, r⟩
    have hKb : K.In (hidT s₁.heap H) := fun b o e => hidT_get (KX b o e) (by
      by_cases z : H b = none
      · exact z
      · have e' := hA b z
        rw [e'] at z e
        rw [hK z] at e
        cases e)
    have hM : Mod K mg (hidT s₁.heap H) := ⟨hKb, nsK hns, ⟨mb, nsK hb, hbb⟩, let ⟨mc, h1, h2⟩ := hlim; ⟨mc, nsK h1, h2⟩⟩
    have e0 : Env0 P w K mg (hidT s₁.heap H) callerA [] s₁ H := ⟨rfl, hM, fun b o e => of_hidT e, Nat.le_of_eq (hidT_size _ _), trivial, fun b hb => absurd (show b ∈ ([] : List Addr) from hb) (by simp), hok, .of_eq hg⟩
    obtain ⟨fd, hF, hB⟩ := F _ hKb (nsK hns)
    refine codeAny_mono (hF.run callerA [] s₁ H ⟨[.ref a], []⟩ [.ref a] [.ref a] _ _ rfl hr e0 (hB s₁ [.ref a] KX rfl) (.cons rfl .nil) (hsp H hO hS)) fun r s' h => ?_
    cases r with
    | error e => exact (hCX H e s' h).elim
    | ok fl =>
      cases fl with
      | next => exact h.elim
      | brk => exact h.elim
      | cont => exact h.elim
      | ret u =>
        obtain ⟨v, H', os, bare, un, hok', r', q⟩ := h
        obtain rfl : v = .bl true := q
        obtain rfl : u = Value.bool true := r'
        refine ⟨rfl, OldK.of_keep fun b o e => ?_, os, bare⟩
        rcases hO b with q | ⟨ob, xs, z⟩
        · exact un.keep b o e q (by intro z; exact absurd (show b ∈ ([] : List Addr) from z) (by simp)) (by simp)
        · obtain ⟨e1, _⟩ := hok b _ z
          obtain ⟨e2, _⟩ := hok' b _ (un.frzs b ob _ z)
          rw [e] at e1
          cases e1
          exact e2
  cases hk : K.lookup a with
  | some o =>
    have e := KX a o hk
    rw [ha] at e
    cases e
    exact main (fun _ => none) (fun _ => .inl rfl) (.inr ⟨_, vs.toArray, _, hk, rfl, rfl, rfl, by rw [List.size_toArray, hi.length]; exact hl, by simpa using rv⟩) (fun b u z => by cases (show (none : Option HO) = some u from z)) (fun b z => absurd rfl z) fun z => absurd rfl z
  | none =>
    refine main (fun b => if b = a then some (.frz { cls := .type "list", data := .seq vs.toArray } (.lst (ns.map V.int))) else none) (fun b => ?_) (.inl (.inr ⟨{ cls := .type "list", data := .seq vs.toArray }, if_pos rfl⟩)) (fun b u z => ?_) (fun b z => ?_) fun _ => hk
    · by_cases hb : b = a
      · exact .inr ⟨_, _, if_pos hb⟩
      · exact .inl (if_neg hb)
    · by_cases hb : b = a
      · cases (if_pos hb).symm.trans z
        subst hb
        exact ⟨ha, by rw [List.length_map]; exact hl, vs, _, rv, ha⟩
      · cases (if_neg hb).symm.trans z
    · by_cases hb : b = a
      · exact hb
      · exact absurd (if_neg hb) z
theorem walk_ofG {l : PySem.W.OpenLaw} {n k : Nat} {q : Program} {loose : List Str} {XP : (Str → Option Value) → Heap → Prop} {YP : World → Heap → Prop} {d : DefRec} {CX : CXT} {x : Str}
    (hn : l.most = some n) (hn2 : n ≤ sizeLine) (hdf : d.params.defaults = []) (hr : Room k callerA)
    (F : ∀ (w : World) (mg : Str → Option Value) (fa : Addr) (h : Heap), YP w h → h.Ns mainGlobals mg → mg d.name = some (.ref fa) →
      ∃ (K : PySem.W.Frag) (sp : Sp), K.In h ∧
        (∀ (H : Hp) (a : Addr) (ns : List Int), ns.length ≤ n → Only H → SqL K H a (ns.map V.int) → sp [.ref a] H (fun v _ => v = .bl true) fun _ _ _ => False) ∧
        ∀ base : Heap, K.In base → base.Ns mainGlobals mg → ∃ fd, FnG l.prog w K mg base CX k fa fd [x] sp ∧ Binds K fd [x] [])
    (hCX : ∀ (H : Hp) (s : Shared) (e : Value) (s' : Shared), CX [] H s (fun _ _ _ => False) e s' → False) :
    PySem.W.WalkO q loose XP YP l.row.toRowW d [] (fun f vs => PySem.call f vs) := by
  refine Att.attach_call hn hdf fun w s₀ s₁ mg mb fa o pm cd doc a vs ns G Y ho hd hcd hmg hobj hints hlen hg => ?_
  obtain ⟨K, sp, KX, hsp, hF⟩ := F w mg fa _ Y G.T.g hmg
  exact law_callG KX G.T.g G.T.b G.T.builtins G.T.nolimit hg hobj hints (Nat.le_trans hlen hn2) hr hF (fun H hO hS => hsp H a ns hlen hO hS) fun H e s' => hCX H s₁ e s'
end L2
namespace SupX
open PySem PySem.W PySem.Calls PyProof.Rows PySem.HandSPX
/-! ### such a class, asked of the written part -/
def clsB (K : Frag) (C : Addr) : Bool := match K.lookup C with
  | some ⟨.type "type", _, .cls ⟨_, _, .ref C' :: bm, _, _, true, _, _, _, _, false⟩, sl⟩ => (match sl.toList with
    | [_, _, _, _, some (.builtin n), _] => decide (C' = C) && (decide (n = "ValueError.__new__") && refsVE bm)
    | _ => false)
  | _ => false
theorem clsB_ok {K : Frag} {C : Addr} (h : clsB K C = true) : ∃ nm q N bs bm sn sub ab col dd k0 k1 k2 k3 k5, K.lookup C = some (excClassObj nm q C N bs bm true sn sub ab col dd k0 k1 k2 k3 k5 "ValueError.__new__") ∧ refsVE bm = true := by
  unfold clsB at h
  split at h
  · rename_i dd nm bs C' bm ns qn sn sub ab col sl ho
    split at h
    · rename_i k0 k1 k2 k3 n k5 hs
      simp only [Bool.and_eq_true, decide_eq_true_eq] at h
      obtain ⟨rfl, rfl, h3⟩ := h
      have e : sl = #[k0, k1, k2, k3, some (.builtin "ValueError.__new__"), k5] := by
        obtain ⟨l⟩ := sl
        simp only at hs
        rw [hs]
      subst e
      exact ⟨_, _, _, _, bm, _, _, _, _, _, k0, k1, k2, k3, k5, ho, h3⟩
    · cases h
  · cases h
/-- the closure and the code object of its __init__ -/
def fnB (K : Frag) (file : Str) (qual : Str) (C fI : Addr) : Bool := match K.lookup fI with
  | some ⟨_, _, .func fd, _⟩ => (match fd.closure, fd.code, fd.defaults, fd.kwdefaults with
    | [(nm, cc)], .ref cda, .none, .none => decide (nm = "__class__") && (codeIn K (.ref cda) qual && ((match K.lookup cc with
        | some ⟨_, _, .cell (some (.ref C')), _⟩ => decide (C' = C)
        | _ => false) && (match K.lookup cda with
        | some ⟨_, _, .fields vs, _⟩ => (match (vs[2]? : Option Value) with
          | some (Value.str fl _) => file == fl
          | _ => false)
        | _ => false)))
    | _, _, _, _ => false)
  | _ => false
abbrev FnC : Type := Option (Str × Str × Arguments × FuncBody × Scope × Addr × Addr)
def fnC (K : Frag) (fI : Addr) : FnC := match K.lookup fI with
  | some ⟨_, _, .func fd, _⟩ => some (fd.name, fd.qualname, fd.params, fd.body, fd.scope, fd.globals, fd.builtins)
  | _ => none
theorem fn_ok {K : Frag} {file qual : Str} {C fI : Addr} {ps : Arguments} {body : List Stmt} {sc : Scope} (e : fnC K fI = some (("__init__" : Str), qual, ps, FuncBody.stmts body, sc, mainGlobals, builtinsNs)) (h : fnB K file qual C fI = true) :
    ∃ (oc : Value) (od : Option Addr) (doc pm : Value) (an : Option Addr) (ct : Value) (osl : Array (Option Value)) (cda cc : Addr),
      K.lookup fI = some ⟨oc, od, .func (ksFn "__init__" qual ps body sc .none .none doc pm an (.ref cda) ct cc), osl⟩ ∧ codeIn K (.ref cda) qual = true ∧
      (∃ (cl : Value) (cld : Option Addr) (csl : Array (Option Value)), K.lookup cc = some ⟨cl, cld, .cell (some (.ref C)), csl⟩) ∧
      ∃ (ccl : Value) (cdd : Option Addr) (ccs : Array (Option Value)) (vs : Array Value) (fl : Str) (tf : Tok), K.lookup cda = some ⟨ccl, cdd, .fields vs, ccs⟩ ∧ vs[2]? = some (.str fl tf) ∧ (file == fl) = true := by
  unfold fnB at h
  unfold fnC at e
  cases q : K.lookup fI with
  | none => rw [q] at h; cases h
  | some o =>
    obtain ⟨oc, od, dt, osl⟩ := o
    rw [q] at h e
    cases dt with
    | func fd =>
      obtain ⟨n1, n2, n3, n4, n5, n6, n7, n8, n9, n10, n11, n12, n13, n14, n15⟩ := fd
      have e2 : (some (n1, n2, n3, n4, n5, n6, n15) : FnC) = some (("__init__" : Str), qual, ps, FuncBody.stmts body, sc, mainGlobals, builtinsNs) := e
      simp only [Option.some.injEq, Prod.mk.injEq] at e2
      obtain ⟨h1, h2, h3, h4, h5, h6, h8⟩ := e2
      subst h1 h2 h3 h4 h5 h6 h8
      dsimp only at h
      split at h
      · rename_i nm cc cda
        simp only [Bool.and_eq_true, decide_eq_true_eq] at h
        obtain ⟨rfl, hc, hcc, hcd⟩ := h
        refine ⟨oc, od, n10, n11, n12, n14, osl, cda, cc, rfl, hc, ?_, ?_⟩
        · split at hcc
          · rename_i c1 c2 C' c3 ho
            obtain rfl : C' = C := of_decide_eq_true hcc
            exact ⟨_, _, _, ho⟩
          · cases hcc
        · split at hcd
          · rename_i c1 c2 vs c3 ho
            split at hcd
            · rename_i fl tf hv
              exact ⟨_, _, _, vs, fl, tf, ho, hv, hcd⟩
            · cases hcd
          · cases hcd
      · cases h
    | _ => cases h
def eqO (a b : Option (Option Value)) : Bool := decide (a = b)
def eqB (a : Option Bool) (b : Bool) : Bool := decide (a = some b)
/-- the class x with its __init__ -/
def supB (K : Frag) (file x qual : Str) : Bool :=
  clsB K (He.ga K x) && (eqO (findIn K (.ref (He.ga K x)) "__setattr__") (some (some (.builtin "object.__setattr__"))) && (eqO (findIn K (.ref (He.ga K x)) "__getattribute__") (some (some (.builtin "BaseException.__getattribute__"))) &&
  (eqO (findIn K (.ref (He.ga K x)) "__getattr__") (some none) && (eqO (findIn K (.ref (He.ga K x)) "number") (some none) && (eqO (findIn K (.ref (He.ga K x)) "__init__") (some (some (.ref (He.ma K (He.ga K x) "__init__")))) &&
  (decide (typeIn K (.ref (He.ma K (He.ga K x) "__init__")) = some (.type "function")) && (keepIn K (.ref (He.ga K x)) && (eqB (subIn K (.ref (He.ga K x)) (.type "BaseException")) true && (eqB (subIn K (.ref (He.ga K x)) (.type "ValueError")) true &&
  (decide (typeIn K (.ref (He.ga K x)) = some (.type "type")) && (hasDictIn K (He.ga K x) && (eqO (ks_superIn K (He.ga K x) (He.ga K x) "__init__") (some (some (.builtin "ValueError.__init__"))) && (eqB (mroIn K (He.ga K x) (.ref (He.ga K x))) true &&
  (eqO (nsIn K cStatics "thirdparty.any") (some none) && fnB K file qual (He.ga K x) (He.ma K (He.ga K x) "__init__")))))))))))))))
theorem sup_ok {prog : Program} {K : Frag} {mg : Str → Option Value} {x qual : Str} {p1 p2 q1 q2 q3 q4 q5 q6 q7 q8 q9 q10 : Pos} (gC : mg x = some (.ref (He.ga K x))) (free : mg "super" = none) (htop : (prog.main.scope.names.lookup (Str.ofString "super")).isSome = false)
    (e : fnC K (He.ma K (He.ga K x) "__init__") = some ((("__init__" : Str)), qual, iA p1 p2, FuncBody.stmts (iB q1 q2 q3 q4 q5 q6 q7 q8 q9 q10), iS, mainGlobals, builtinsNs)) (hq : (q3.endLine == q5.line) = true) (h : supB K (prog.main.file : Str) x qual = true) :
    SupTxt prog K mg x (He.ga K x) (He.ma K (He.ga K x) "__init__") := by
  unfold supB at h
  simp only [Bool.and_eq_true] at h
  obtain ⟨h1, h2, h3, h4, h5, h6, h7, h8, h9, h10, h11, h12, h13, h14, h15, h16⟩ := h
  obtain ⟨oc, od, doc, pm, an, ct, osl, cda, cc, k1, k2, k3, k4⟩ := fn_ok e h16
  exact ⟨gC, clsB_ok h1, of_decide_eq_true h2, of_decide_eq_true h3, of_decide_eq_true h4, of_decide_eq_true h5, of_decide_eq_true h6, of_decide_eq_true h7, h8, of_decide_eq_true h9, of_decide_eq_true h10, of_decide_eq_true h11, h12, of_decide_eq_true h13, of_decide_eq_true h14, of_decide_eq_true h15, free, htop,
    oc, od, doc, pm, an, ct, osl, p1, p2, q1, q2, q3, q4, q5, q6, q7, q8, q9, q10, qual, cda, cc, k1, k2, hq, k3, k4⟩
/-! ### a Hook that asks of these too -/
abbrev AlX : Type := Bool × List He.FnW × List FnC
def obsX (fa : List He.Fa) (fn : List He.DefD) (sup : List Str) (mine : Frag → Bool) (K : Frag) : AlX := ((He.obsD fa fn K).1 && mine K, (He.obsD fa fn K).2, sup.map fun x => fnC K (He.ma K (He.ga K x) "__init__"))
def valX (fn : List He.DefD) (sv : List FnC) : AlX := (true, (He.valD fn).2, sv)
def obsXG (n : Nat) (fa : List He.Fa) (fn : List He.DefD) (sup : List Str) (mine : Frag → Bool) (g : Addr → Option Obj) : AlX := obsX fa fn sup mine (He.frG g (He.asD g n ++ [cStatics]))
def hookX (n : Nat) (fa : List He.Fa) (fn : List He.DefD) (sup : List Str) (sv : List FnC) (mine : Frag → Bool) : PySem.W.Hook where
  α := AlX
  obs := fun s => obsXG n fa fn sup mine s.heap.get?
  val := fun _ => valX fn sv
  says := fun _ h => ∃ K : Frag, K.In h ∧ obsX fa fn sup mine K = valX fn sv
  of := fun _ _ e => ⟨_, He.frG_in, e⟩
  keeps := fun _ _ _ ⟨K, hK, c⟩ k => ⟨K, PySem.W.Frag.In.keeps hK k, c⟩
theorem obsXG_eq {n : Nat} {fa : List He.Fa} {fn : List He.DefD} {sup : List Str} {sv : List FnC} {mine : Frag → Bool} {g : Addr → Option Obj} {s : Shared} (h : ∀ a, g a = s.heap.get? a) : obsXG n fa fn sup mine g = (hookX n fa fn sup sv mine).obs s := by
  have e : g = s.heap.get? := funext h
  rw [e] <;> rfl
theorem saysX {fa : List He.Fa} {fn : List He.DefD} {sup : List Str} {sv : List FnC} {mine : Frag → Bool} {K : Frag} (h : obsX fa fn sup mine K = valX fn sv) : He.SaysD fa fn K ∧ mine K = true ∧ sup.map (fun x => fnC K (He.ma K (He.ga K x) "__init__")) = sv := by
  have h1 : ((He.obsD fa fn K).1 && mine K) = true := congrArg (fun z : AlX => z.1) h
  have h2 : (He.obsD fa fn K).2 = (He.valD fn).2 := congrArg (fun z : AlX => z.2.1) h
  have h3 : sup.map (fun x => fnC K (He.ma K (He.ga K x) "__init__")) = sv := congrArg (fun z : AlX => z.2.2) h
  rw [Bool.and_eq_true] at h1
  exact ⟨Prod.ext h1.1 h2, h1.2, h3⟩
end SupX

set_option Elab.async false
set_option linter.all false
set_option maxRecDepth 100000
set_option maxHeartbeats 2000000
namespace G3
open PySem PySem.Spec PyProof.Rows L2
section
variable {P : Program} {w : World} {K : PySem.W.Frag} {mg : Str → Option Value} {base : Heap}
abbrev n_is_whole : List Str := ["value"]
abbrev p_is_whole : List Str := ["value"]
theorem sc_is_whole : FnScope n_is_whole p_is_whole (defScope s_is_whole) := ⟨rfl, rfl, rfl, by decide +kernel, rfl, by decide +kernel, by decide +kernel⟩
abbrev n_edge_fault : List Str := ["edge", "n", "place"]
abbrev p_edge_fault : List Str := ["edge", "n"]
theorem sc_edge_fault : FnScope n_edge_fault p_edge_fault (defScope s_edge_fault) := ⟨rfl, rfl, rfl, by decide +kernel, rfl, by decide +kernel, by decide +kernel⟩
theorem ok_is_whole {x : Str} (D : DefAt K mg x "is_whole" s_is_whole) (B : Bt mg) : Has P w K mg base CX0 1 x p_is_whole (spIsI K) := by
  refine has_of D sc_is_whole (fun _ _ _ _ _ _ us hl => match us, hl with | [_], _ => rfl) (fun vs H Q E h => ?_) (fun f cdv A outer s H vs Q E hr h => ?_)
  · obtain ⟨x, d, rfl, _⟩ := h
    rfl
  · obtain ⟨x, d, rfl, hd, q⟩ := h
    refine ⟨_, (pss_one (ps_ret (pe_and (pe_callB (isiK (K := K) rfl) rfl B.isinstance (by decide +kernel) (pa_cons (pv 0) (pa_cons (pe_bltn (v := .ty "int") (u := .type "int") rfl B.int (by decide +kernel) rfl) pa_nil))) (pe_one (pe_not (pe_callB (isiK (K := K) rfl) rfl B.isinstance (by decide +kernel) (pa_cons (pv 0) (pa_cons (pe_bltn (v := .ty "bool") (u := .type "bool") rfl B.bool (by decide +kernel) rfl) pa_nil)))))))), ?_⟩
    have ty := Dp.ty hd
    refine ⟨_, rfl, _, _, _, _, _, rfl, .ty _, ty, kt_int d, _, rfl, ?_⟩
    cases hd with
    | non => exact iteF q
    | bl b => exact iteT ⟨_, rfl, _, _, _, _, _, rfl, .ty _, ty, kt_bool _, _, rfl, q⟩
    | int i => exact iteT ⟨_, rfl, _, _, _, _, _, rfl, .ty _, ty, kt_bool _, _, rfl, q⟩
    | str x => exact iteF q
    | lst _ _ => exact iteF q
    | tup _ _ => exact iteF q
def spEdgeFault : Sp := fun vs H Q _ => ∃ (e : Addr) (a b n : Nat), vs = [.ref e, nV n] ∧ H e = some (.tup [nV a, nV b]) ∧ a < b ∧ b < n ∧ ∀ H', Same H H' → Q .non H'
theorem ok_edge_fault (D : DefAt K mg "edge_fault" "edge_fault" s_edge_fault) (B : Bt mg) (h_is_whole_graphs : Has P w K mg base CX0 1 "is_whole_graphs" p_is_whole (spIsI K)) : Has P w K mg base CX0 2 "edge_fault" p_edge_fault spEdgeFault := by
  refine has_of D sc_edge_fault (fun _ _ _ _ _ _ us hl => match us, hl with | [_, _], _ => rfl) (fun vs H Q E h => ?_) (fun f cdv A outer s H vs Q E hr h => ?_)
  · obtain ⟨e, a, b, n, rfl, _⟩ := h
    rfl
  · obtain ⟨e, a, b, n, rfl, he, hab, hbn, q⟩ := h
    refine ⟨_, (pss_cons (ps_if (PW.pt (pw_or (pt_not (pt_val (pe_callB (isiTK (K := K) rfl) rfl B.isinstance (by decide +kernel) (pa_cons (pv 0) (pa_cons (pe_tup (pa_cons (pe_bltn (v := .ty "tuple") (u := .type "tuple") rfl B.tuple (by decide +kernel) rfl) (pa_cons (pe_bltn (v := .ty "list") (u := .type "list") rfl B.list (by decide +kernel) rfl) pa_nil))) pa_nil))))) (pw_or (pt_cmpR op_ne (pe_callB (lenK (K := K) rfl) rfl B.len PySem.boot_len (pa_cons (pv 0) pa_nil)) pe_int (nomark _)) (pw_or1 (pt_not (pt_val (pe_callB (allK (K := K) rfl rfl) rfl B.all (by decide +kernel) (pa_cons (pe_lc (own := [("place", 2)]) (g := gName 2) (tt := tYes) rfl sc_edge_fault.nd (piT (K := K) rfl (pv 0)) (blkOk_by (N := n_edge_fault) (sc := defScope s_edge_fault) (by decide +kernel)) (fun _ _ _ _ _ => (pg_name (i := 2) sc_edge_fault.nd rfl (.inl rfl))) (fun _ _ _ _ _ => pts_nil) (fun _ _ _ _ _ => (pe_h h_is_whole_graphs hr pass0 (pa_cons (pv 2) pa_nil)))) pa_nil)))))))) (pss_one (ps_ret pe_str)) pss_nil)
  (pss_one (ps_ret (pe_ifExp (pt_chain3 op_le op_lt op_lt pe_int (pe_ix (ixT (K := K) rfl) (pv 0) pe_int (fun _ _ => rfl)) (pe_ix (ixT (K := K) rfl) (pv 0) pe_int (fun _ _ => rfl)) (pv 1)) pe_non pe_str)))), ?_⟩
    refine ⟨_, rfl, by show 2 ≤ sizeLine; decide, fun tp ntp => ?_⟩
    have s1 : Same H (upd H tp (.tup [.ty "tuple", .ty "list"])) := same_upd ntp
    generalize hH1 : upd H tp (.tup [.ty "tuple", .ty "list"]) = H1 at s1
    have htp : H1 tp = some (.tup [.ty "tuple", .ty "list"]) := by rw [← hH1]; exact upd_same
    have he1 := s1 _ _ he
    refine ⟨_, tp, _, _, _, true, rfl, htp, .cons (.ty _) (.cons (.ty _) .nil), ty_t (SqT.of he1), kt_tl (.tuple []), _, rfl, iteF ?_⟩
    refine ⟨_, rfl, _, 2, rfl, .inr ⟨_, SqT.of he1, rfl⟩, rfl, _, rfl, ifN (fun e => absurd rfl e) fun _ => ?_⟩
    refine ⟨_, rfl, e, rfl, ⟨_, SqT.of he1⟩, fun L nL => ?_⟩
    refine lc_tup (K := K) (a := e) (xs := [nV a, nV b]) (fun i H2 => Same H1 H2 ∧ H2 L = some (.lst ((List.replicate i true).map V.bl))) ⟨same_upd nL, upd_same⟩ (fun i H2 _ p => SqT.of (p.1 _ _ he1)) ?_ ?_
    · rintro i x H2 hx ⟨sm, hl⟩
      have hi : i < 2 := (List.getElem?_eq_some_iff.mp hx).1
      have hv : ∃ j : Nat, x = nV j := by
        match i, hx, hi with
        | 0, hx, _ => exact ⟨a, (Option.some.inj hx).symm⟩
        | 1, hx, _ => exact ⟨b, (Option.some.inj hx).symm⟩
      obtain ⟨j, rfl⟩ := hv
      refine ⟨rfl, yes_ ?_⟩
      refine ⟨_, rfl, _, _, rfl, .int _, _, hl, size_lt (by rw [len_rep]; omega), same_mut sm nL, ?_⟩
      rw [upd_same, List.replicate_succ', List.map_append]; rfl
    · rintro H2 ⟨sm, hl⟩
      refine ⟨_, _, rfl, SqL.of hl, _, rfl, ?_⟩
      rw [all_rep]
      refine iteF ?_
      have s2 := s1.trans sm
      have he2 := s2 _ _ he
      refine ⟨_, rfl, _, _, 0, nV a, rfl, rfl, SqT.of he2, rfl, _, _, rfl, rfl, _, rfl, ifD (fun _ => ?_) (fun h => absurd (Int.natCast_nonneg a) h)⟩
      refine ⟨_, rfl, _, _, 1, nV b, rfl, rfl, SqT.of he2, rfl, _, _, rfl, rfl, _, rfl, ifD (fun _ => ?_) (fun h => absurd (by omega) h)⟩
      refine ⟨_, rfl, _, _, rfl, rfl, _, rfl, ifD (fun _ => ?_) (fun h => absurd (by omega) h)⟩
      exact q _ s2
end
end G3

set_option Elab.async false
set_option linter.all false
set_option maxRecDepth 100000
set_option maxHeartbeats 2000000
namespace G3
open PySem PySem.Spec PyProof.Rows L2
/-! ## places that are together -/
def adj (ps : List Pr) (v : Nat) : List Nat := ps.flatMap fun e => (if e.1 = v then [e.2] else []) ++ (if e.2 = v then [e.1] else [])
theorem mem_adj {ps : List Pr} {v u : Nat} : u ∈ adj ps v ↔ ∃ e ∈ ps, (e.1 = v ∧ e.2 = u) ∨ (e.2 = v ∧ e.1 = u) := by
  unfold adj
  rw [List.mem_flatMap]
  constructor
  · rintro ⟨e, he, h⟩
    refine ⟨e, he, ?_⟩
    rcases List.mem_append.mp h with h | h
    · by_cases c : e.1 = v
      · rw [if_pos c] at h; exact .inl ⟨c, (List.mem_singleton.mp h).symm⟩
      · rw [if_neg c] at h; cases h
    · by_cases c : e.2 = v
      · rw [if_pos c] at h; exact .inr ⟨c, (List.mem_singleton.mp h).symm⟩
      · rw [if_neg c] at h; cases h
  · rintro ⟨e, he, h⟩
    refine ⟨e, he, List.mem_append.mpr ?_⟩
    rcases h with ⟨h1, h2⟩ | ⟨h1, h2⟩
    · exact .inl (by rw [if_pos h1]; exact List.mem_singleton.mpr h2.symm)
    · exact .inr (by rw [if_pos h1]; exact List.mem_singleton.mpr h2.symm)
theorem adj_app {ps qs : List Pr} {v : Nat} : adj (ps ++ qs) v = adj ps v ++ adj qs v := by
  unfold adj; rw [List.flatMap_append]
theorem adj_one {e : Pr} {v : Nat} : adj [e] v = (if e.1 = v then [e.2] else []) ++ (if e.2 = v then [e.1] else []) := by
  unfold adj; simp
theorem adj_le {ps : List Pr} {v : Nat} : (adj ps v).length ≤ 2 * ps.length := by
  induction ps with
  | nil => exact Nat.le_refl 0
  | cons e r ih =>
    have : adj (e :: r) v = adj [e] v ++ adj r v := adj_app (ps := [e])
    rw [this, List.length_append, adj_one, List.length_append, List.length_cons]
    have h1 : (if e.1 = v then [e.2] else []).length ≤ 1 := by split <;> simp
    have h2 : (if e.2 = v then [e.1] else []).length ≤ 1 := by split <;> simp
    omega
def Reach (ps : List Pr) (s i : Nat) : Prop := ∀ f : Nat → Bool, (∀ e ∈ ps, f e.1 = f e.2) → f i = f s
theorem Reach.refl {ps : List Pr} {s : Nat} : Reach ps s s := fun _ _ => rfl
theorem Reach.step {ps : List Pr} {s v u : Nat} (h : Reach ps s v) (hu : u ∈ adj ps v) : Reach ps s u := fun f hf => by
  rw [← h f hf]
  obtain ⟨e, he, h | h⟩ := mem_adj.mp hu
  · rw [← h.1, ← h.2]; exact (hf e he).symm
  · rw [← h.1, ← h.2]; exact hf e he
theorem closed_reach {ps : List Pr} {n s : Nat} {F : List Bool} (hb : ∀ e ∈ ps, e.1 < n ∧ e.2 < n) (hs : F[s]? = some true) (hc : ∀ v, F[v]? = some true → ∀ u ∈ adj ps v, F[u]? = some true) {i : Nat} (h : Reach ps s i) : F[i]? = some true := by
  have e := h (fun j => F[j]? == some true) fun e he => by
    show (F[e.1]? == some true) = (F[e.2]? == some true)
    by_cases c : F[e.1]? = some true
    · rw [c, hc _ c _ (mem_adj.mpr ⟨e, he, .inl ⟨rfl, rfl⟩⟩)]
    · by_cases c2 : F[e.2]? = some true
      · exact absurd (hc _ c2 _ (mem_adj.mpr ⟨e, he, .inr ⟨rfl, rfl⟩⟩)) c
      · rw [beq_eq_false_iff_ne.mpr c, beq_eq_false_iff_ne.mpr c2]
  have e2 : (F[i]? == some true) = (F[s]? == some true) := e
  rw [hs] at e2
  exact beq_iff_eq.mp (e2.trans rfl)
/-- one more place found -/
theorem count_set_true {F : List Bool} {u : Nat} (h : F[u]? = some false) : (F.set u true).count false + 1 = F.count false := by
  obtain ⟨hl, e⟩ := List.getElem?_eq_some_iff.mp h
  have h1 : 0 < F.count false := List.count_pos_iff.mpr (e ▸ List.getElem_mem hl)
  rw [List.count_set hl, e]
  simp
  omega
/-- what is found while row v is gone through -/
structure Seek (ps : List Pr) (n s : Nat) (F : List Bool) (W : List Nat) (ex : Nat → Nat → Prop) : Prop where
  len : F.length = n
  at0 : F[s]? = some true
  inW : ∀ w ∈ W, F[w]? = some true
  re : ∀ v, F[v]? = some true → Reach ps s v
  closed : ∀ v, F[v]? = some true → v ∉ W → ∀ u ∈ adj ps v, F[u]? = some true ∨ ex v u
theorem Seek.new {ps : List Pr} {n s u v : Nat} {F : List Bool} {W : List Nat} {ex : Nat → Nat → Prop} (h : Seek ps n s F W ex) (hv : F[v]? = some true) (hu : u ∈ adj ps v) (hF : F[u]? = some false) :
    Seek ps n s (F.set u true) (W ++ [u]) ex := by
  have keep : ∀ x, F[x]? = some true → (F.set u true)[x]? = some true := fun x hx => by
    by_cases c : u = x
    · subst c; rw [hF] at hx; cases hx
    · rw [List.getElem?_set_ne c]; exact hx
  have hl := (List.getElem?_eq_some_iff.mp hF).1
  have back : ∀ x, (F.set u true)[x]? = some true → x = u ∨ F[x]? = some true := fun x hx => by
    by_cases c : u = x
    · exact .inl c.symm
    · rw [List.getElem?_set_ne c] at hx; exact .inr hx
  refine ⟨by rw [List.length_set]; exact h.len, keep _ h.at0, fun w hw => ?_, fun x hx => ?_, fun x hx hxW y hy => ?_⟩
  · rcases List.mem_append.mp hw with hw | hw
    · exact keep _ (h.inW w hw)
    · rw [List.mem_singleton.mp hw, List.getElem?_set_self hl]
  · rcases back x hx with rfl | hx
    · exact (h.re v hv).step hu
    · exact h.re x hx
  · rcases back x hx with rfl | hx
    · exact absurd (List.mem_append.mpr (.inr (List.mem_singleton.mpr rfl))) hxW
    · exact (h.closed x hx (fun z => hxW (List.mem_append.mpr (.inl z))) y hy).imp (keep y) id
theorem Seek.done {ps : List Pr} {n s : Nat} {F : List Bool} {ex : Nat → Nat → Prop} (h : Seek ps n s F [] ex) (hex : ∀ v u, ¬ ex v u) (hb : ∀ e ∈ ps, e.1 < n ∧ e.2 < n) (i : Nat) : F[i]? = some true ↔ Reach ps s i :=
  ⟨h.re i, fun r => closed_reach hb h.at0 (fun v hv u hu => (h.closed v hv (List.not_mem_nil) u hu).elim id fun z => (hex _ _ z).elim) r⟩
theorem Seek.pop {ps : List Pr} {n s v : Nat} {F : List Bool} {W : List Nat} (h : Seek ps n s F (W ++ [v]) fun _ _ => False) : F[v]? = some true ∧ Seek ps n s F W fun x u => x = v ∧ u ∈ (adj ps v).drop 0 := by
  refine ⟨h.inW v (List.mem_append.mpr (.inr (List.mem_singleton.mpr rfl))), h.len, h.at0, fun w hw => h.inW w (List.mem_append.mpr (.inl hw)), h.re, fun x hx hxW u hu => ?_⟩
  by_cases c : x = v
  · exact .inr ⟨c, by rw [List.drop_zero, ← c]; exact hu⟩
  · refine (h.closed x hx (fun z => ?_) u hu).imp id fun f => f.elim
    rcases List.mem_append.mp z with z | z
    · exact hxW z
    · exact c (List.mem_singleton.mp z)
theorem Seek.next {ps : List Pr} {n s v j u : Nat} {F : List Bool} {W : List Nat} (h : Seek ps n s F W fun x u => x = v ∧ u ∈ (adj ps v).drop j) (hj : (adj ps v)[j]? = some u) (hu : F[u]? = some true) :
    Seek ps n s F W fun x u => x = v ∧ u ∈ (adj ps v).drop (j + 1) := by
  refine ⟨h.len, h.at0, h.inW, h.re, fun x hx hxW y hy => ?_⟩
  rcases h.closed x hx hxW y hy with z | ⟨z1, z2⟩
  · exact .inl z
  · obtain ⟨hl, e⟩ := List.getElem?_eq_some_iff.mp hj
    rw [List.drop_eq_getElem_cons hl, e] at z2
    rcases List.mem_cons.mp z2 with rfl | z2
    · exact .inl hu
    · exact .inr ⟨z1, z2⟩
theorem Seek.last {ps : List Pr} {n s v : Nat} {F : List Bool} {W : List Nat} (h : Seek ps n s F W fun x u => x = v ∧ u ∈ (adj ps v).drop (adj ps v).length) : Seek ps n s F W fun _ _ => False :=
  ⟨h.len, h.at0, h.inW, h.re, fun x hx hxW y hy => (h.closed x hx hxW y hy).imp id fun z => by rw [List.drop_length] at z; cases z.2⟩
/-- what of H stands but for what stood at no time before -/
def But (X : Addr → Prop) (H H' : Hp) : Prop := ∀ b o, ¬ X b → H b = some o → H' b = some o
theorem But.trans {X : Addr → Prop} {H H1 H2 : Hp} (a : But X H H1) (b : But X H1 H2) : But X H H2 := fun c o n e => b c o n (a c o n e)
theorem But.refl {X : Addr → Prop} {H : Hp} : But X H H := fun _ _ _ e => e
theorem But.mut {X : Addr → Prop} {H : Hp} {p : Addr} {o : HO} (h : X p) : But X H (upd H p o) := fun b u n e => by
  have c : b ≠ p := fun z => n (z ▸ h)
  rw [upd_ne c]; exact e
theorem Same.but {X : Addr → Prop} {H H' : Hp} (h : Same H H') : But X H H' := fun b o _ e => h b o e
theorem But.same {X : Addr → Prop} {H0 H H' : Hp} (h : But X H H') (s : Same H0 H) (hx : ∀ b, X b → H0 b = none) : Same H0 H' := fun b o e => by
  refine h b o (fun z => ?_) (s b o e)
  rw [hx b z] at e; cases e
/-- a list of things apart, c i the i-th -/
def Rows (H : Hp) (B : Addr) (as : List Addr) (c : Nat → HO) : Prop := H B = some (.lst (as.map V.ref)) ∧ as.Nodup ∧ ∀ i a, as[i]? = some a → a ≠ B ∧ H a = some (c i)
theorem rows_get {as : List Addr} {i : Nat} (h : i < as.length) : (as.map V.ref)[i]? = some (.ref as[i]) := getMap h
theorem Rows.nil {H : Hp} {B : Addr} {c : Nat → HO} : Rows (upd H B (.lst [])) B [] c := ⟨upd_same, List.nodup_nil, fun _ _ h => nomatch h⟩
theorem Rows.but {X : Addr → Prop} {H H' : Hp} {B : Addr} {as : List Addr} {c : Nat → HO} (h : Rows H B as c) (e : But X H H') (hB : ¬ X B) (ha : ∀ a ∈ as, ¬ X a) : Rows H' B as c :=
  ⟨e _ _ hB h.1, h.2.1, fun i a z => ⟨(h.2.2 i a z).1, e _ _ (ha a (List.mem_of_getElem? z)) (h.2.2 i a z).2⟩⟩
theorem Rows.same {H H' : Hp} {B : Addr} {as : List Addr} {c : Nat → HO} (h : Rows H B as c) (e : Same H H') : Rows H' B as c :=
  ⟨e _ _ h.1, h.2.1, fun i a z => ⟨(h.2.2 i a z).1, e _ _ (h.2.2 i a z).2⟩⟩
theorem Rows.push {H : Hp} {B a : Addr} {as : List Addr} {c : Nat → HO} {o : HO} (h : Rows H B as c) (na : H a = none) (ho : o = c as.length) :
    (upd H a o) B = some (.lst (as.map V.ref)) ∧ Rows (upd (upd H a o) B (.lst (as.map V.ref ++ [.ref a]))) B (as ++ [a]) c := by
  obtain ⟨r1, r2, r3⟩ := h
  have nab : B ≠ a := fun z => by rw [← z, r1] at na; cases na
  refine ⟨by rw [upd_ne nab]; exact r1, by rw [upd_same, List.map_append]; rfl, ?_, fun i x hx => ?_⟩
  · refine List.nodup_append.mpr ⟨r2, List.nodup_cons.mpr ⟨List.not_mem_nil, List.nodup_nil⟩, fun x hx y hy e => ?_⟩
    rw [List.mem_singleton.mp hy] at e
    obtain ⟨i, hi, z⟩ := List.getElem_of_mem hx
    have := (r3 i x (by rw [List.getElem?_eq_getElem hi, z])).2
    rw [e, na] at this; cases this
  · by_cases hi : i < as.length
    · rw [List.getElem?_append_left hi] at hx
      obtain ⟨h1, h2⟩ := r3 i x hx
      have nxa : x ≠ a := fun z => by rw [z, na] at h2; cases h2
      exact ⟨h1, by rw [upd_ne h1, upd_ne nxa]; exact h2⟩
    · have hl := (List.getElem?_eq_some_iff.mp hx).1
      rw [List.length_append] at hl
      have : i = as.length := by simp at hl; omega
      subst this
      rw [List.getElem?_append_right (Nat.le_refl _)] at hx
      have : x = a := by simpa using hx.symm
      subst this
      exact ⟨fun z => nab z.symm, by rw [upd_ne (fun z => nab z.symm), upd_same, ho]⟩
theorem Rows.set {H : Hp} {B a : Addr} {as : List Addr} {c : Nat → HO} {o : HO} {k : Nat} (h : Rows H B as c) (hk : as[k]? = some a) : Rows (upd H a o) B as (fun i => if i = k then o else c i) := by
  obtain ⟨r1, r2, r3⟩ := h
  have hb := (r3 k a hk).1
  refine ⟨by rw [upd_ne hb.symm]; exact r1, r2, fun i x hx => ⟨(r3 i x hx).1, ?_⟩⟩
  by_cases c1 : i = k
  · subst c1
    rw [hk] at hx
    obtain rfl := Option.some.inj hx
    show _ = some (if i = i then o else c i)
    rw [if_pos rfl, upd_same]
  · have : x ≠ a := fun z => by
      subst z
      obtain ⟨l1, e1⟩ := List.getElem?_eq_some_iff.mp hk
      obtain ⟨l2, e2⟩ := List.getElem?_eq_some_iff.mp hx
      exact c1 ((List.getElem_inj r2).mp (e2.trans e1.symm))
    show _ = some (if i = k then o else c i)
    rw [if_neg c1, upd_ne this]
    exact (r3 i x hx).2
theorem Rows.to {H : Hp} {B : Addr} {as : List Addr} {c c' : Nat → HO} (h : Rows H B as c) (e : ∀ i, i < as.length → c i = c' i) : Rows H B as c' :=
  ⟨h.1, h.2.1, fun i a z => ⟨(h.2.2 i a z).1, by rw [← e i (List.getElem?_eq_some_iff.mp z).1]; exact (h.2.2 i a z).2⟩⟩
theorem Rows.at {H : Hp} {B : Addr} {as : List Addr} {c : Nat → HO} (h : Rows H B as c) {i : Nat} (hi : i < as.length) : as[i] ≠ B ∧ H as[i] = some (c i) := h.2.2 i _ (List.getElem?_eq_getElem hi)
section
variable {P : Program} {w : World} {K : PySem.W.Frag} {mg : Str → Option Value} {base : Heap}
abbrev n_together : List Str := ["n", "pairs", "start", "found", "beside", "one", "other", "waiting", "place"]
abbrev p_together : List Str := ["n", "pairs", "start"]
theorem sc_together : FnScope n_together p_together (defScope s_together) := ⟨rfl, rfl, rfl, by decide +kernel, rfl, by decide +kernel, by decide +kernel⟩
def spTogether (K : PySem.W.Frag) : Sp := fun vs H Q _ => ∃ (n s : Nat) (p : Addr) (ws : List V) (ps : List Pr), vs = [nV n, .ref p, nV s] ∧ (SqL K H p ws ∨ SqT K H p ws) ∧ Prs H ws ps ∧ (∀ e ∈ ps, e.1 < n ∧ e.2 < n) ∧ s < n ∧ n ≤ 10000 ∧ ps.length ≤ 10000 ∧
  ∀ (H' : Hp) (L : Addr) (F : List Bool), Same H H' → H L = none → H' L = some (.lst (F.map V.bl)) → F.length = n → (∀ i, F[i]? = some true ↔ Reach ps s i) → Q (.ref L) H'
theorem ok_together (D : DefAt K mg "together" "together" s_together) (B : Bt mg) : Has P w K mg base CX0 1 "together" p_together (spTogether K) := by
  refine has_of D sc_together (fun _ _ _ _ _ _ us hl => match us, hl with | [_, _, _], _ => rfl) (fun vs H Q E h => ?_) (fun f cdv A outer s H vs Q E hr h => ?_)
  · obtain ⟨n, s, p, ws, ps, rfl, _⟩ := h
    rfl
  · obtain ⟨n, s, p, ws, ps, rfl, hp, hps, hb, hsn, hn, hl, q⟩ := h
    refine ⟨_, (pss_cons (ps_setLc (i := 3) (own := [("place", 8)]) (g := gName 8) (tt := tYes) rfl sc_together.nd rfl rfl (sw_true rfl rfl rfl (by decide +kernel)) (pi_range1 rfl B.range (pa_cons (pv 0) pa_nil)) (blkOk_by (N := n_together) (sc := defScope s_together) (by decide +kernel)) (fun _ _ _ _ _ => (pg_name (i := 8) sc_together.nd rfl (.inl rfl))) (fun _ _ _ _ _ => pts_nil) (fun _ _ _ _ _ => (pe_cmpR op_eq (pv 8) (pv 2) (nomark _))))
  (pss_cons (ps_setLc (i := 4) (own := [("place", 8)]) (g := gName 8) (tt := tYes) rfl sc_together.nd rfl rfl (sw_true rfl rfl rfl (by decide +kernel)) (pi_range1 rfl B.range (pa_cons (pv 0) pa_nil)) (blkOk_by (N := n_together) (sc := defScope s_together) (by decide +kernel)) (fun _ _ _ _ _ => (pg_name (i := 8) sc_together.nd rfl (.inl rfl))) (fun _ _ _ _ _ => pts_nil) (fun _ _ _ _ _ => (pe_lst pa_nil)))
  (Evl.pss_cut (ps_for PassesOwn.never rfl (pi_row (K := K) rfl (pv 1)) (pgT (K := K) (n := 2) rfl rfl (pgs_cons (pg_name (i := 5) sc_together.nd rfl (.inl rfl)) (pgs_cons (pg_name (i := 6) sc_together.nd rfl (.inl rfl)) pgs_nil))) (pss_cons (ps_expr (pe_bm PySem.F.plainAttrs_list PySem.F.slot_list_append PySem.F.type_list_append mt_append (pe_ix (ixL (K := K) rfl) (pv 4) (pv 5) (fun _ _ => rfl)) (pa_cons (pv 6) pa_nil)))
  (pss_one (ps_expr (pe_bm PySem.F.plainAttrs_list PySem.F.slot_list_append PySem.F.type_list_append mt_append (pe_ix (ixL (K := K) rfl) (pv 4) (pv 6) (fun _ _ => rfl)) (pa_cons (pv 5) pa_nil))))))
  (pss_cons (ps_set (i := 7) sc_together.nd rfl (.inl rfl) (pe_lst (pa_cons (pv 2) pa_nil)))
  (pss_cons (ps_while PassesOwn.never (pt_truth (pv 7) (by intro _; rfl)) (pss_one (ps_for PassesOwn.never rfl (piL (K := K) rfl (pe_ix (ixL (K := K) rfl) (pv 4) (pe_bm0 PySem.F.plainAttrs_list PySem.F.slot_list_pop PySem.F.type_list_pop mt_pop (pv 7)) (fun _ _ => rfl))) (pg_name (i := 6) sc_together.nd rfl (.inl rfl)) (pss_one (ps_if (pt_not (pt_val (pe_ix (ixL (K := K) rfl) (pv 3) (pv 6) (fun _ _ => rfl)))) (pss_cons (ps_asg pe_bl (pg_sub (pv 3) (pv 6) set_list))
  (pss_one (ps_expr (pe_bm PySem.F.plainAttrs_list PySem.F.slot_list_append PySem.F.type_list_append mt_append (pv 7) (pa_cons (pv 6) pa_nil))))) pss_nil)))))
  (pss_one (ps_ret (pv 3)))))))), ?_⟩
    -- found
    refine ⟨_, rfl, _, rfl, by omega, by omega, fun F0 nF => ?_⟩
    refine lc_range (lo := 0) (n := n) (fun i H2 => Same H H2 ∧ H2 F0 = some (.lst (((List.range i).map fun k => decide (k = s)).map V.bl))) ⟨same_upd nF, upd_same⟩ ?_ ?_
    · rintro i H2 hi ⟨sm, hF⟩
      refine ⟨rfl, yes_ ?_⟩
      refine ⟨_, rfl, _, rfl, rfl, _, hF, size_lt (by rw [List.length_map, List.length_map, List.length_range]; omega), same_mut sm nF, ?_⟩
      rw [upd_same, List.range_succ, List.map_append, List.map_append]
      have e : decide (V.int (0 + (i : Int)) = nV s) = decide (i = s) := decide_eq_decide.mpr ⟨fun h => by injection h with h; omega, fun h => by rw [h]; exact congrArg V.int (by omega)⟩
      rw [e]; rfl
    rintro H1 ⟨sm1, hF⟩
    -- beside
    refine ⟨_, rfl, _, rfl, by omega, by omega, fun B0 nB => ?_⟩
    refine lc_range (lo := 0) (n := n) (fun i H2 => Same H1 H2 ∧ ∃ as, as.length = i ∧ Rows H2 B0 as (fun _ => .lst []) ∧ ∀ a ∈ as, H1 a = none) ⟨same_upd nB, [], rfl, Rows.nil, fun a h => nomatch h⟩ ?_ ?_
    · rintro i H2 hi ⟨sm, as, las, ro, fr⟩
      refine ⟨rfl, yes_ ?_⟩
      refine ⟨by show 0 ≤ sizeLine; decide, fun a na => ?_⟩
      obtain ⟨p1, p2⟩ := ro.push (o := .lst []) na rfl
      refine ⟨_, p1, size_lt (by rw [List.length_map]; omega), same_mut (sm.trans (same_upd na)) nB, as ++ [a], by rw [List.length_append, las]; rfl, p2, fun x hx => ?_⟩
      rcases List.mem_append.mp hx with hx | hx
      · exact fr x hx
      · rw [List.mem_singleton.mp hx]; exact sm.free na
    rintro H2 ⟨sm2, as, las, ro, fr⟩
    -- the rows
    have notAs : ∀ x o, H x = some o → ¬ x ∈ as := fun x o e z => by
      have := fr x z
      rw [sm1 _ _ e] at this; cases this
    have s12 : Same H H2 := sm1.trans sm2
    refine ⟨fun σ H' => ∃ (y z : Option V), σ = [some (nV n), some (.ref p), some (nV s), some (.ref F0), some (.ref B0), y, z, none, none] ∧ But (· ∈ as) H2 H' ∧ Rows H' B0 as (fun v => .lst ((adj ps v).map nV)), ?_, ?_⟩
    · refine ⟨_, rfl, p, rfl, ?_⟩
      refine for_row (K := K) (a := p) (xs := ws) (H0 := H) hp (fun i σ H' => ∃ (y z : Option V), σ = [some (nV n), some (.ref p), some (nV s), some (.ref F0), some (.ref B0), y, z, none, none] ∧ But (· ∈ as) H2 H' ∧ Rows H' B0 as (fun v => .lst ((adj (ps.take i) v).map nV))) ?_ ?_ ?_ ?_
      · exact ⟨none, none, rfl, But.refl, ro.to fun i _ => rfl⟩
      · rintro i σ' H' ⟨y, z, rfl, bt, _⟩ o ho
        exact bt _ _ (notAs _ _ ho) (s12 _ _ ho)
      · rintro i x σ' H' hx ⟨y, z, rfl, bt, ro'⟩
        have hi : i < ps.length := by rw [← hps.len]; exact (List.getElem?_eq_some_iff.mp hx).1
        obtain ⟨t, e1, e2⟩ := hps.get hi
        rw [hx] at e1
        obtain rfl := Option.some.inj e1
        obtain ⟨b1, b2⟩ := hb _ (List.getElem_mem hi)
        generalize he : ps[i] = e at e2 b1 b2
        obtain ⟨a, b⟩ := e
        have ht : H' t = some (.tup [nV a, nV b]) := bt _ _ (notAs _ _ e2) (s12 _ _ e2)
        refine ⟨t, _, rfl, SqT.of ht, rfl, _, _, rfl, _, _, rfl, rfl, ?_⟩
        have la : a < as.length := by omega
        have lb : b < as.length := by omega
        have hal := adj_le (ps := ps.take i) (v := a)
        have hbl := adj_le (ps := ps.take i) (v := b)
        have htl : (ps.take i).length ≤ 10000 := by rw [List.length_take]; omega
        refine ⟨_, rfl, _, rfl, _, _, a, .ref as[a], rfl, rfl, SqL.of ro'.1, atI_nat (rows_get la), .inl ⟨rfl, _, SqL.of (ro'.at la).2⟩, _, rfl, _, _, _, rfl, rfl, (ro'.at la).2, size_lt (by rw [List.length_map]; omega), ?_⟩
        have r1 := ro'.set (o := .lst ((adj (ps.take i) a).map nV ++ [nV b])) (List.getElem?_eq_getElem la)
        have m1 : But (· ∈ as) H' (upd H' as[a] (.lst ((adj (ps.take i) a).map nV ++ [nV b]))) := But.mut (X := (· ∈ as)) (List.getElem_mem la)
        generalize upd H' as[a] (.lst ((adj (ps.take i) a).map nV ++ [nV b])) = H3 at r1 m1
        obtain ⟨l2, k2⟩ : ∃ l2, l2.length ≤ 20001 ∧ (if b = a then HO.lst ((adj (ps.take i) a).map nV ++ [nV b]) else .lst ((adj (ps.take i) b).map nV)) = .lst (l2.map nV) ∧ l2 ++ [a] = adj (ps.take (i + 1)) b := by
          rw [List.take_add_one, List.getElem?_eq_getElem hi, he]
          by_cases c : b = a
          · subst c
            refine ⟨adj (ps.take i) b ++ [b], ?_, ?_, ?_⟩
            · rw [List.length_append]; simp; omega
            · rw [if_pos rfl, List.map_append]; rfl
            · show _ = adj (ps.take i ++ [(b, b)]) b
              rw [adj_app, adj_one]; simp
          · refine ⟨adj (ps.take i) b, by omega, if_neg c, ?_⟩
            show _ = adj (ps.take i ++ [(a, b)]) b
            rw [adj_app, adj_one, if_neg (show ¬ (a, b).1 = b from fun z => c z.symm), if_pos rfl]
            rfl
        have hb3 := (r1.at lb).2
        rw [k2.2.1] at hb3
        refine ⟨_, rfl, _, rfl, _, _, b, .ref as[b], rfl, rfl, SqL.of r1.1, atI_nat (rows_get lb), .inl ⟨rfl, _, SqL.of hb3⟩, _, rfl, _, _, _, rfl, rfl, hb3, size_lt (by rw [List.length_map]; omega), ?_⟩
        refine ⟨_, _, rfl, (bt.trans m1).trans (But.mut (X := (· ∈ as)) (List.getElem_mem lb)), ?_⟩
        refine (r1.set (List.getElem?_eq_getElem lb)).to fun v hv => ?_
        show (if v = b then HO.lst (l2.map nV ++ [nV a]) else if v = a then HO.lst ((adj (ps.take i) a).map nV ++ [nV b]) else .lst ((adj (ps.take i) v).map nV)) = _
        by_cases c : v = b
        · subst c
          rw [if_pos rfl, ← k2.2.2, List.map_append]; rfl
        · rw [if_neg c, List.take_add_one, List.getElem?_eq_getElem hi, he]
          show _ = HO.lst ((adj (ps.take i ++ [(a, b)]) v).map nV)
          rw [adj_app, adj_one, if_neg (show ¬ (a, b).2 = v from fun z => c z.symm), List.append_nil, List.map_append]
          by_cases c2 : v = a
          · subst c2
            rw [if_pos rfl, if_pos rfl]; rfl
          · rw [if_neg c2, if_neg (show ¬ (a, b).1 = v from fun z => c2 z.symm)]
            simp
      · rintro σ' H' ⟨y, z, rfl, bt, rw'⟩
        rw [hps.len, List.take_length] at rw'
        exact ⟨_, _, rfl, bt, rw'⟩
    · rintro σ' H' ⟨y, z, rfl, bt, ro'⟩
      have frs : Same H H' := bt.same s12 fun x hx => sm1.free (fr x hx)
      have hF' : H' F0 = some (.lst (((List.range n).map fun k => decide (k = s)).map V.bl)) := bt _ _ (fun z => by have := fr _ z; rw [hF] at this; cases this) (sm2 _ _ hF)
      refine ⟨_, rfl, by show 1 ≤ sizeLine; decide, fun W0 nW => ?_⟩
      have nWF : W0 ≠ F0 := fun z => by rw [z, hF'] at nW; cases nW
      have ro3 := ro'.same (same_upd (o := .lst [nV s]) nW)
      have hF3 : (upd H' W0 (.lst [nV s])) F0 = some (.lst (((List.range n).map fun k => decide (k = s)).map V.bl)) := by rw [upd_ne nWF.symm]; exact hF'
      have hW3 : (upd H' W0 (.lst [nV s])) W0 = some (.lst [nV s]) := upd_same
      have s3 : Same H (upd H' W0 (.lst [nV s])) := frs.trans (same_upd nW)
      have nB0 : ¬ (B0 = F0 ∨ B0 = W0) := fun z => z.elim (fun z => by rw [z, hF] at nB; cases nB) fun z => by rw [← z, ro'.1] at nW; cases nW
      have nas : ∀ a ∈ as, ¬ (a = F0 ∨ a = W0) := fun a ha z => by
        rcases z with z | z
        · have := fr a ha
          rw [z, hF] at this; cases this
        · obtain ⟨k, hk, e⟩ := List.getElem_of_mem ha
          have := (ro'.at hk).2
          rw [e, z, nW] at this; cases this
      generalize upd H' W0 (.lst [nV s]) = H3 at ro3 hF3 hW3 s3 ⊢
      have nx : ∀ x, x = F0 ∨ x = W0 → H x = none := fun x hx => by
        rcases hx with rfl | rfl
        · exact nF
        · exact frs.free nW
      have cF : ∀ v, ((List.range n).map fun k => decide (k = s))[v]? = some true → v = s := fun v hv => by
        rw [List.getElem?_map] at hv
        by_cases c : v < n
        · rw [List.getElem?_range c] at hv
          exact of_decide_eq_true (Option.some.inj hv)
        · rw [List.getElem?_eq_none (by rw [List.length_range]; omega)] at hv
          cases hv
      have c0 : ((List.range n).map fun k => decide (k = s))[s]? = some true := by
        rw [List.getElem?_map, List.getElem?_range hsn]
        show some (decide (s = s)) = _
        rw [decide_eq_true rfl]
      have sk0 : Seek ps n s ((List.range n).map fun k => decide (k = s)) [s] (fun _ _ => False) :=
        ⟨by rw [List.length_map, List.length_range], c0, fun w hw => by rw [List.mem_singleton.mp hw]; exact c0, fun v hv => by rw [cF v hv]; exact Reach.refl, fun v hv nv => absurd (List.mem_singleton.mpr (cF v hv)) nv⟩
      have cl : ∀ F : List Bool, F.length = n → F.count false ≤ n := fun F e => e ▸ List.count_le_length
      refine ⟨fun m σ' H4 => ∃ (y z : Option V) (F : List Bool) (Wl : List Nat), σ' = [some (nV n), some (.ref p), some (nV s), some (.ref F0), some (.ref B0), y, z, some (.ref W0), none] ∧ But (fun x => x = F0 ∨ x = W0) H3 H4 ∧ H4 F0 = some (.lst (F.map V.bl)) ∧ H4 W0 = some (.lst (Wl.map nV)) ∧ Seek ps n s F Wl (fun _ _ => False) ∧ m = 2 * F.count false + Wl.length ∧ m ≤ 2 * n + 1, ⟨_, _, _, _, [s], rfl, But.refl, hF3, hW3, sk0, rfl, ?_⟩, ?_⟩
      · have := cl _ sk0.len
        show 2 * _ + 1 ≤ _
        omega
      rintro m σ' H4 ⟨y, z, F, Wl, rfl, b4, hF4, hW4, sk, em, hm⟩
      rcases List.eq_nil_or_concat Wl with rfl | ⟨W', v, rfl⟩
      · refine ⟨_, rfl, _, .inl ⟨_, SqL.of hW4, rfl⟩, ?_⟩
        exact iteF ⟨_, rfl, q _ _ _ (b4.same s3 nx) nF hF4 sk.len (sk.done (fun _ _ => id) hb)⟩
      · rw [List.concat_eq_append] at *
        obtain ⟨hv, sk1⟩ := sk.pop
        have hvn : v < n := by rw [← sk.len]; exact (List.getElem?_eq_some_iff.mp hv).1
        have hva : v < as.length := by omega
        have cF4 := cl F sk.len
        rw [List.length_append] at em
        have em : m = 2 * F.count false + (W'.length + 1) := em
        refine ⟨_, rfl, _, .inl ⟨_, SqL.of hW4, rfl⟩, ?_⟩
        rw [List.map_append]
        have ne : (!((W'.map nV) ++ [v].map nV).isEmpty) = true := by simp
        rw [ne]
        refine iteT ?_
        refine ⟨fun σ' H5 => ∃ m', m' < m ∧ ∃ (y z : Option V) (F : List Bool) (Wl : List Nat), σ' = [some (nV n), some (.ref p), some (nV s), some (.ref F0), some (.ref B0), y, z, some (.ref W0), none] ∧ But (fun x => x = F0 ∨ x = W0) H3 H5 ∧ H5 F0 = some (.lst (F.map V.bl)) ∧ H5 W0 = some (.lst (Wl.map nV)) ∧ Seek ps n s F Wl (fun _ _ => False) ∧ m' = 2 * F.count false + Wl.length ∧ m' ≤ 2 * n + 1, fun _ _ h => h, ?_⟩
        have roA := fun (H5 : Hp) (b5 : But (fun x => x = F0 ∨ x = W0) H3 H5) => ro3.but b5 nB0 nas
        refine ⟨_, rfl, _, rfl, .inl ⟨rfl, _, SqL.of hW4⟩, W0, _, nV v, rfl, rfl, hW4, ?_, ?_⟩
        · rw [List.map_append, List.length_append, List.length_map]
          simp
        have eW : ((W' ++ [v]).map nV).dropLast = W'.map nV := by rw [List.map_append]; simp
        rw [eW]
        have b5 : But (fun x => x = F0 ∨ x = W0) H3 (upd H4 W0 (.lst (W'.map nV))) := b4.trans (But.mut (X := fun x => x = F0 ∨ x = W0) (.inr rfl))
        have hF5 : (upd H4 W0 (.lst (W'.map nV))) F0 = some (.lst (F.map V.bl)) := by rw [upd_ne nWF.symm]; exact hF4
        have hW5 : (upd H4 W0 (.lst (W'.map nV))) W0 = some (.lst (W'.map nV)) := upd_same
        generalize upd H4 W0 (.lst (W'.map nV)) = H5 at b5 hF5 hW5 ⊢
        have ro5 := roA _ b5
        refine ⟨_, _, v, .ref as[v], rfl, rfl, SqL.of ro5.1, atI_nat (rows_get hva), as[v], rfl, ⟨_, SqL.of (ro5.at hva).2⟩, ?_⟩
        refine for_list (K := K) (a := as[v]) (xs := (adj ps v).map nV) (fun j σ' H6 => ∃ (y z : Option V) (F : List Bool) (Wl : List Nat), σ' = [some (nV n), some (.ref p), some (nV s), some (.ref F0), some (.ref B0), y, z, some (.ref W0), none] ∧ But (fun x => x = F0 ∨ x = W0) H3 H6 ∧ H6 F0 = some (.lst (F.map V.bl)) ∧ H6 W0 = some (.lst (Wl.map nV)) ∧ Seek ps n s F Wl (fun x u => x = v ∧ u ∈ (adj ps v).drop j) ∧ F[v]? = some true ∧ 2 * F.count false + Wl.length < m) ?_ ?_ ?_ ?_
        · exact ⟨_, _, _, _, rfl, b5, hF5, hW5, sk1, hv, by omega⟩
        · rintro j σ' H6 hj ⟨y, z, F, Wl, rfl, b6, _⟩
          exact SqL.of ((roA _ b6).at hva).2
        · rintro j x σ' H6 hx ⟨y, z, F, Wl, rfl, b6, hF6, hW6, sk6, hv6, hm6⟩
          rw [List.getElem?_map] at hx
          obtain ⟨u, hu, rfl⟩ := Option.map_eq_some_iff.mp hx
          have hua := List.mem_of_getElem? hu
          have hun : u < n := by
            obtain ⟨e, he, h | h⟩ := mem_adj.mp hua
            · rw [← h.2]; exact (hb e he).2
            · rw [← h.2]; exact (hb e he).1
          have hul : u < F.length := by rw [sk6.len]; exact hun
          have hFu : (F.map V.bl)[u]? = some (.bl F[u]) := getMap hul
          have hFu2 : F[u]? = some F[u] := List.getElem?_eq_getElem hul
          skip
          refine ⟨_, rfl, _, rfl, _, _, u, .bl F[u], rfl, rfl, SqL.of hF6, atI_nat hFu, _, rfl, ?_⟩
          cases hf : F[u] with
          | true =>
            rw [hf] at hFu2
            exact iteF ⟨_, _, F, Wl, rfl, b6, hF6, hW6, sk6.next hu hFu2, hv6, hm6⟩
          | false =>
            rw [hf] at hFu2
            have ct := count_set_true hFu2
            have sk7 := sk6.new hv6 hua hFu2
            refine iteT ⟨_, rfl, _, rfl, F0, _, u, u, rfl, rfl, hF6, Evl.ixN_nat (by rw [List.length_map]; exact hul), ?_⟩
            have hW7 : (upd H6 F0 (.lst ((F.map V.bl).set u (.bl true)))) W0 = some (.lst (Wl.map nV)) := by rw [upd_ne nWF]; exact hW6
            refine ⟨_, rfl, .inl ⟨rfl, _, SqL.of hW7⟩, _, rfl, W0, _, nV u, rfl, rfl, hW7, size_lt (by rw [List.length_map]; omega), ?_⟩
            refine ⟨_, _, F.set u true, Wl ++ [u], rfl, (b6.trans (But.mut (X := fun x => x = F0 ∨ x = W0) (.inl rfl))).trans (But.mut (X := fun x => x = F0 ∨ x = W0) (.inr rfl)), ?_, ?_, sk7.next hu (List.getElem?_set_self hul), ?_, ?_⟩
            · rw [upd_ne nWF.symm, upd_same, List.map_set]
            · rw [upd_same, List.map_append]; rfl
            · by_cases c : u = v
              · rw [c]; exact List.getElem?_set_self (c ▸ hul)
              · rw [List.getElem?_set_ne c]; exact hv6
            · rw [List.length_append]
              show 2 * _ + (_ + 1) < m
              omega
        · rintro σ' H6 ⟨y, z, F, Wl, rfl, b6, hF6, hW6, sk6, hv6, hm6⟩
          rw [List.length_map] at sk6
          exact ⟨_, hm6, _, _, _, _, rfl, b6, hF6, hW6, sk6.last, rfl, by omega⟩
end
end G3

set_option Elab.async false
set_option linter.all false
set_option maxRecDepth 100000
set_option maxHeartbeats 2000000
namespace G3
open PySem PySem.Spec PyProof.Rows L2
/-! ## Graph -/
structure GraphC (K : PySem.W.Frag) (C : Addr) : Prop where
  cls : Cls K C
  n : NoAttr K C "n"
  edges : NoAttr K C "edges"
  genus : NoAttr K C "genus"
  kept : NoAttr K C "kept"
/-- a graph object: its places, its edges in order, its dict of what is kept -/
def GrAt (H : Hp) (C g : Addr) (n : Nat) (es : List Pr) (kd : Addr) : Prop := ∃ (dx eT : Addr) (vs : List V), H g = some (.ins C dx [("n", nV n), ("edges", .ref eT), ("genus", .int ((es.length : Int) - n + 1)), ("kept", .ref kd)]) ∧ H eT = some (.tup vs) ∧ Prs H vs es
theorem GrAt.but {X : Addr → Prop} {H H' : Hp} {C g kd : Addr} {n : Nat} {es : List Pr} (h : GrAt H C g n es kd) (e : But X H H') (hg : ¬ X g) (ht : ∀ t xs, H t = some (.tup xs) → ¬ X t) : GrAt H' C g n es kd := by
  obtain ⟨dx, eT, vs, h1, h2, h3⟩ := h
  exact ⟨dx, eT, vs, e _ _ hg h1, e _ _ (ht _ _ h2) h2, h3.mono fun t a b z => e _ _ (ht _ _ z) z⟩
theorem GrAt.same {H H' : Hp} {C g kd : Addr} {n : Nat} {es : List Pr} (h : GrAt H C g n es kd) (e : Same H H') : GrAt H' C g n es kd :=
  h.but (X := fun _ => False) (Same.but e) id fun _ _ _ => id
theorem Good.reach {n : Nat} {es : List Pr} (h : Good n es) {i : Nat} (hi : i < n) : Reach es 0 i := fun f hf => h.2 f hf i hi
def Lex (es : List Pr) : Prop := es.Pairwise fun a b => a.1 < b.1 ∨ a.1 = b.1 ∧ a.2 ≤ b.2
/-- the pair at a value -/
def prI (H : Hp) : V → Int × Int
  | .ref t => match H t with
    | some (.tup [.int a, .int b]) => (a, b)
    | _ => (0, 0)
  | _ => (0, 0)
def prN (H : Hp) (v : V) : Pr := ((prI H v).1.toNat, (prI H v).2.toNat)
theorem prI_of {H : Hp} {t : Addr} {a b : Nat} (h : H t = some (.tup [nV a, nV b])) : prI H (.ref t) = ((a : Int), (b : Int)) := by
  have h : H t = some (.tup [.int a, .int b]) := h
  simp only [prI, h]
theorem prN_of {H : Hp} {t : Addr} {a b : Nat} (h : H t = some (.tup [nV a, nV b])) : prN H (.ref t) = (a, b) := by
  unfold prN; rw [prI_of h]; rfl
theorem Prs.eq {H : Hp} : ∀ {vs : List V} {ps : List Pr}, Prs H vs ps → ps = vs.map (prN H)
  | [], [], _ => rfl
  | v :: vs, p :: ps, ⟨⟨t, h1, h2⟩, h⟩ => by rw [List.map_cons, ← Prs.eq h, h1, prN_of h2]
  | [], _ :: _, h => h.elim
  | _ :: _, [], h => h.elim
theorem Prs.mem {H : Hp} : ∀ {vs : List V} {ps : List Pr}, Prs H vs ps → ∀ v ∈ vs, ∃ t a b, v = .ref t ∧ H t = some (.tup [nV a, nV b])
  | v :: vs, p :: ps, ⟨⟨t, h1, h2⟩, h⟩, u, hu => by
    rcases List.mem_cons.mp hu with rfl | hu
    · exact ⟨t, _, _, h1, h2⟩
    · exact Prs.mem h u hu
  | [], [], _, _, hu => nomatch hu
  | [], _ :: _, h, _, _ => h.elim
  | _ :: _, [], h, _, _ => h.elim
theorem prs_of {H : Hp} : ∀ {vs : List V}, (∀ v ∈ vs, ∃ t a b, v = .ref t ∧ H t = some (.tup [nV a, nV b])) → Prs H vs (vs.map (prN H))
  | [], _ => True.intro
  | v :: vs, h => by
    obtain ⟨t, a, b, e1, e2⟩ := h v (List.mem_cons_self ..)
    subst e1
    exact ⟨⟨t, rfl, by rw [prN_of e2]; exact e2⟩, prs_of fun u hu => h u (List.mem_cons_of_mem _ hu)⟩
section
variable {P : Program} {w : World} {K : PySem.W.Frag} {mg : Str → Option Value} {base : Heap} {C : Addr}
abbrev n_Graph___init__ : List Str := ["self", "n", "edges", "number", "edge", "reason", "near", "place"]
abbrev p_Graph___init__ : List Str := ["self", "n", "edges"]
theorem sc_Graph___init__ : FnScope n_Graph___init__ p_Graph___init__ (defScope s_Graph___init__) := ⟨rfl, rfl, rfl, by decide +kernel, rfl, by decide +kernel, by decide +kernel⟩
def spGInit (C : Addr) : Sp := fun vs H Q _ => ∃ (x dx l : Addr) (n : Nat) (ws : List V) (es : List Pr), vs = [.ref x, nV n, .ref l] ∧ H x = some (.ins C dx []) ∧ H l = some (.lst ws) ∧ Prs H ws es ∧ Good n es ∧ 1 ≤ n ∧ n ≤ 64 ∧ es.length ≤ 400 ∧
  ∀ (H' : Hp) (es' : List Pr) (kd : Addr), But (· = x) H H' → GrAt H' C x n es' kd → es'.Perm es → Lex es' → H kd = none → H' kd = some (.dK []) → Q .non H'
theorem ok_Graph (D : MkAt K mg "Graph" C "__init__" "Graph.__init__" s_Graph___init__) (B : Bt mg) (G : GraphC K C) (h_is_whole_graphs : Has P w K mg base CX0 1 "is_whole_graphs" p_is_whole (spIsI K))
    (h_edge_fault : Has P w K mg base CX0 2 "edge_fault" p_edge_fault spEdgeFault) (h_together : Has P w K mg base CX0 1 "together" p_together (spTogether K)) (i64 : ∃ t, mg "MOST_PLACES" = some (.int 64 t)) (i400 : ∃ t, mg "MOST_EDGES" = some (.int 400 t)) :
    HasMk P w K mg base CX0 3 "Graph" C p_Graph___init__ (spGInit C) := by
  refine hasMk_of D sc_Graph___init__ (fun _ _ _ _ _ _ us hl => match us, hl with | [_, _, _], _ => rfl) (fun vs H Q E h => ?_) (fun f cdv A outer s H vs Q E hr h => ?_)
  · obtain ⟨x, dx, l, n, ws, es, rfl, _⟩ := h
    rfl
  · obtain ⟨x, dx, l, n, ws, es, rfl, hx, hl, hws, good, hn1, hn64, he4, q⟩ := h
    refine ⟨_, (pss_cons (ps_if (PW.pt (pw_or (pt_not (pt_val (pe_h h_is_whole_graphs hr pass0 (pa_cons (pv 1) pa_nil)))) (pw_or1 (pt_not (pt_chain op_le op_le pe_int (pv 1) (pe_gint i64)))))) (pss_one ps_never) pss_nil)
  (pss_cons (ps_if (PW.pt (pw_or (pt_not (pt_val (pe_callB (isiTK (K := K) rfl) rfl B.isinstance (by decide +kernel) (pa_cons (pv 2) (pa_cons (pe_tup (pa_cons (pe_bltn (v := .ty "tuple") (u := .type "tuple") rfl B.tuple (by decide +kernel) rfl) (pa_cons (pe_bltn (v := .ty "list") (u := .type "list") rfl B.list (by decide +kernel) rfl) pa_nil))) pa_nil))))) (pw_or1 (pt_cmpR op_gt (pe_callB (lenK (K := K) rfl) rfl B.len PySem.boot_len (pa_cons (pv 2) pa_nil)) (pe_gint i400) (nomark _))))) (pss_one ps_never) pss_nil)
  (pss_cons (ps_for PassesOwn.never rfl (pi_enum rfl B.enumerate (pa_cons (pv 2) pa_nil)) (pgT (K := K) (n := 2) rfl rfl (pgs_cons (pg_name (i := 3) sc_Graph___init__.nd rfl (.inl rfl)) (pgs_cons (pg_name (i := 4) sc_Graph___init__.nd rfl (.inl rfl)) pgs_nil))) (pss_cons (ps_set (i := 5) sc_Graph___init__.nd rfl (.inl rfl) (pe_h h_edge_fault hr pass0 (pa_cons (pv 4) (pa_cons (pv 1) pa_nil))))
  (pss_one (ps_if (pt_cmpR op_notN (pv 5) pe_non (nomark _)) (pss_one ps_never) pss_nil))))
  (pss_cons (ps_fld (pv 0) (pv 1) rfl)
  (pss_cons (ps_fld (pv 0) (pe_callTy (tupK (K := K) rfl) rfl B.tuple (by decide +kernel) (pa_cons (pe_callB (sortPK (K := K) rfl) rfl B.sorted (by decide +kernel) (pa_cons (pe_lc (own := [("edge", 4)]) (g := gName 4) (tt := tYes) rfl sc_Graph___init__.nd (piL (K := K) rfl (pv 2)) (blkOk_by (N := n_Graph___init__) (sc := defScope s_Graph___init__) (by decide +kernel)) (fun _ _ _ _ _ => (pg_name (i := 4) sc_Graph___init__.nd rfl (.inl rfl))) (fun _ _ _ _ _ => pts_nil) (fun _ _ _ _ _ => (pe_callTy (tupK (K := K) rfl) rfl B.tuple (by decide +kernel) (pa_cons (pv 4) pa_nil)))) pa_nil)) pa_nil)) rfl)
  (pss_cons (ps_set (i := 6) sc_Graph___init__.nd rfl (.inl rfl) (pe_h h_together hr pass0 (pa_cons (pv 1) (pa_cons (fldK (K := K) rfl (pv 0) rfl) (pa_cons pe_int pa_nil)))))
  (pss_cons (ps_for PassesOwn.never rfl (pi_range1 rfl B.range (pa_cons (pv 1) pa_nil)) (pg_name (i := 7) sc_Graph___init__.nd rfl (.inl rfl)) (pss_one (ps_if (pt_not (pt_val (pe_ix (ixL (K := K) rfl) (pv 6) (pv 7) (fun _ _ => rfl)))) (pss_one ps_never) pss_nil)))
  (pss_cons (ps_fld (pv 0) (pe_op op_add (pe_op op_sub (pe_callB (lenK (K := K) rfl) rfl B.len PySem.boot_len (pa_cons (fldK (K := K) rfl (pv 0) rfl) pa_nil)) (pv 1)) pe_int) rfl)
  (pss_one (ps_fld (pv 0) (pe_dnewK) rfl)))))))))), ?_⟩
    refine ⟨_, rfl, _, _, rfl, .int _, _, rfl, iteF ?_⟩
    refine ⟨_, rfl, _, _, rfl, rfl, _, rfl, ifD (fun _ => ?_) (fun h => absurd (by omega) h)⟩
    refine ⟨_, _, rfl, rfl, _, rfl, ifN (fun h => absurd (by omega) h) (fun _ => ?_)⟩
    -- edges
    refine ⟨_, rfl, by show 2 ≤ sizeLine; decide, fun tp ntp => ?_⟩
    have s1 : Same H (upd H tp (.tup [.ty "tuple", .ty "list"])) := same_upd ntp
    generalize hH1 : upd H tp (.tup [.ty "tuple", .ty "list"]) = H1 at s1
    have htp : H1 tp = some (.tup [.ty "tuple", .ty "list"]) := by rw [← hH1]; exact upd_same
    have hl1 := s1 _ _ hl
    refine ⟨_, tp, _, _, _, true, rfl, htp, .cons (.ty _) (.cons (.ty _) .nil), ty_l (SqL.of hl1), kt_tl (.list []), _, rfl, iteF ?_⟩
    have hlen := hws.len
    refine ⟨_, rfl, _, ws.length, rfl, .inl ⟨_, SqL.of hl1, rfl⟩, _, _, rfl, rfl, _, rfl, ifD (fun h => absurd h (by omega)) fun _ => ?_⟩
    -- for number, edge
    refine ⟨_, rfl, l, ws, rfl, SqL.of hl1, ?_⟩
    refine for_enL (K := K) (a := l) (xs := ws) (fun i σ H' => ∃ (y z u : Option V), σ = [some (.ref x), some (nV n), some (.ref l), y, z, u, none, none] ∧ Same H H') ⟨none, none, none, rfl, s1⟩ (fun i σ H' _ p => by obtain ⟨_, _, _, _, sm⟩ := p; exact SqL.of (sm _ _ hl)) ?_ ?_
    · rintro i v T σ H2 hv ⟨y, z, u, rfl, sm⟩ nT
      have hi : i < es.length := by rw [← hlen]; exact (List.getElem?_eq_some_iff.mp hv).1
      obtain ⟨t, e1, e2⟩ := hws.get hi
      rw [hv] at e1
      obtain rfl := Option.some.inj e1
      obtain ⟨g1, g2⟩ := good.1 _ (List.getElem_mem hi)
      have sT : Same H2 (upd H2 T (.tup [.int (i : Nat), .ref t])) := same_upd nT
      refine ⟨T, _, rfl, SqT.of upd_same, rfl, _, _, rfl, _, _, rfl, rfl, ?_⟩
      refine ⟨_, rfl, _, rfl, t, _, _, n, rfl, sT _ _ (sm _ _ e2), g1, g2, fun H3 sm3 => ?_⟩
      refine ⟨_, rfl, rfl, _, rfl, iteF ?_⟩
      exact ⟨_, _, _, rfl, (sm.trans sT).trans sm3⟩
    rintro σ H2 ⟨y, z0, u, rfl, sm2⟩
    -- self.n
    refine ⟨_, rfl, _, rfl, x, C, dx, [], rfl, sm2 _ _ hx, G.cls, G.n, by decide, ?_⟩
    have hx2 := sm2 _ _ hx
    have b3 : But (· = x) H (upd H2 x (.ins C dx [("n", nV n)])) := (Same.but sm2).trans (But.mut (X := (· = x)) rfl)
    have hx3 : (upd H2 x (.ins C dx [("n", nV n)])) x = some (.ins C dx [("n", nV n)]) := upd_same
    show tSeq _ _ _ _ (upd H2 x (.ins C dx [("n", nV n)]))
    generalize upd H2 x (.ins C dx [("n", nV n)]) = H3 at b3 hx3 ⊢
    have nl : ¬ l = x := fun z => by rw [z, hx] at hl; cases hl
    have nt : ∀ t xs, H t = some (.tup xs) → ¬ t = x := fun t xs e z => by rw [z, hx] at e; cases e
    -- self.edges
    refine ⟨_, rfl, l, rfl, ⟨_, SqL.of (b3 _ _ nl hl)⟩, fun L nL => ?_⟩
    refine lc_list (K := K) (a := l) (xs := ws) (fun i H4 => Same H3 H4 ∧ H4 L = some (.lst (ws.take i))) ⟨same_upd nL, upd_same⟩ (fun i H4 _ p => SqL.of (p.1 _ _ (b3 _ _ nl hl))) ?_ ?_
    · rintro i v H4 hv ⟨sm, hL⟩
      have hi : i < es.length := by rw [← hlen]; exact (List.getElem?_eq_some_iff.mp hv).1
      obtain ⟨t, e1, e2⟩ := hws.get hi
      rw [hv] at e1
      obtain rfl := Option.some.inj e1
      refine ⟨rfl, yes_ ?_⟩
      refine ⟨_, rfl, t, _, rfl, .inr ⟨SqT.of (sm _ _ (b3 _ _ (nt _ _ e2) e2)), ?_⟩⟩
      refine ⟨_, hL, size_lt (by rw [List.length_take]; omega), same_mut sm nL, ?_⟩
      rw [upd_same, List.take_add_one, hv]; rfl
    rintro H4 ⟨sm4, hL⟩
    rw [List.take_length] at hL
    have b4 : But (· = x) H H4 := b3.trans (Same.but sm4)
    have hx4 := sm4 _ _ hx3
    have hws4 : Prs H4 ws es := hws.mono fun t a b e => b4 _ _ (nt _ _ e) e
    refine ⟨L, ws, prI H4, rfl, SqL.of hL, fun v hv => ?_, fun ys p hs hb np => ?_⟩
    · obtain ⟨t, a, b, e1, e2⟩ := hws4.mem v hv
      subst e1
      exact ⟨t, rfl, by rw [prI_of e2]; exact e2⟩
    have lys : ys.length = es.length := by rw [hb.perm.length_eq, hlen]
    refine ⟨p, ys, rfl, .inl ⟨SqL.of upd_same, fun eT nT => ?_⟩⟩
    have s6 : Same H4 (upd (upd H4 p (.lst ys)) eT (.tup ys)) := (same_upd np).trans (same_upd nT)
    have heT : (upd (upd H4 p (.lst ys)) eT (.tup ys)) eT = some (.tup ys) := upd_same
    generalize upd (upd H4 p (.lst ys)) eT (.tup ys) = H6 at s6 heT ⊢
    have hx6 := s6 _ _ hx4
    have b6 : But (· = x) H H6 := b4.trans (Same.but s6)
    have hys6 : Prs H6 ys (ys.map (prN H4)) := (prs_of fun v hv => by
      obtain ⟨t, a, b, e1, e2⟩ := hws4.mem v (hb.perm.mem_iff.mp hv)
      exact ⟨t, a, b, e1, e2⟩ : Prs H4 ys (ys.map (prN H4))).same s6
    have hperm : (ys.map (prN H4)).Perm es := by
      rw [hws4.eq]; exact hb.perm.map _
    have hlex : Lex (ys.map (prN H4)) := by
      refine List.pairwise_map.mpr (List.Pairwise.imp_of_mem (fun {a b} ha hb' h => ?_) hs)
      have h := SrtO.lexB_no.mp h
      obtain ⟨t, a1, a2, rfl, e2⟩ := hws4.mem a (hb.perm.mem_iff.mp ha)
      obtain ⟨t', b1, b2, rfl, e2'⟩ := hws4.mem b (hb.perm.mem_iff.mp hb')
      rw [prI_of e2, prI_of e2'] at h
      rw [prN_of e2, prN_of e2']
      have h : ¬ ((b1 : Int) < (a1 : Int) ∨ (b1 : Int) = a1 ∧ (b2 : Int) < a2) := h
      show a1 < b1 ∨ a1 = b1 ∧ a2 ≤ b2
      omega
    generalize ys.map (prN H4) = es' at hys6 hperm hlex
    have good' := good.perm hperm
    have les : es'.length = es.length := hperm.length_eq
    refine ⟨_, rfl, x, C, dx, _, rfl, hx6, G.cls, G.edges, by show 1 < 1000; decide, ?_⟩
    have b7 : But (· = x) H (upd H6 x (.ins C dx [("n", nV n), ("edges", .ref eT)])) := b6.trans (But.mut (X := (· = x)) rfl)
    have hx7 : (upd H6 x (.ins C dx [("n", nV n), ("edges", .ref eT)])) x = some (.ins C dx [("n", nV n), ("edges", .ref eT)]) := upd_same
    have neT : eT ≠ x := fun z => by rw [z, hx6] at heT; cases heT
    have heT7 : (upd H6 x (.ins C dx [("n", nV n), ("edges", .ref eT)])) eT = some (.tup ys) := by rw [upd_ne neT]; exact heT
    have hys7 : Prs (upd H6 x (.ins C dx [("n", nV n), ("edges", .ref eT)])) ys es' := hys6.mono fun t a b e => by
      have : t ≠ x := fun z => by rw [z, hx6] at e; cases e
      rw [upd_ne this]; exact e
    show tSeq _ _ _ _ (upd H6 x (.ins C dx [("n", nV n), ("edges", .ref eT)]))
    generalize upd H6 x (.ins C dx [("n", nV n), ("edges", .ref eT)]) = H7 at b7 hx7 heT7 hys7 ⊢
    -- near
    refine ⟨_, rfl, _, rfl, x, C, dx, _, _, rfl, hx7, G.cls, G.edges, rfl, ?_⟩
    refine ⟨n, 0, eT, ys, es', rfl, .inr (SqT.of heT7), hys7, fun e he => ?_, by omega, by omega, by omega, fun H8 N F sm8 nN hN lF hF => ?_⟩
    · have := good'.1 e he
      omega
    refine ⟨_, rfl, _, rfl, by omega, by omega, for_range (lo := 0) (n := n) (fun i σ H' => ∃ (z : Option V), σ = [some (.ref x), some (nV n), some (.ref l), y, z0, u, some (.ref N), z] ∧ H' = H8) ?_ ?_ ?_⟩
    · exact ⟨_, rfl, rfl⟩
    · rintro i σ H' hi ⟨z, rfl, rfl⟩
      have hr := (hF i).mpr (good'.reach hi)
      have ei : V.int (0 + (i : Int)) = nV i := by rw [Int.zero_add]
      rw [ei]
      refine ⟨_, rfl, _, rfl, _, _, i, .bl true, rfl, rfl, SqL.of hN, atI_nat (by rw [List.getElem?_map, hr]; rfl), _, rfl, iteF ?_⟩
      exact ⟨_, rfl, rfl⟩
    · rintro σ H' ⟨z, rfl, rfl⟩
      -- genus
      have hx8 := sm8 _ _ hx7
      have heT8 := sm8 _ _ heT7
      have hys8 := hys7.same sm8
      have l8 := hys8.len
      refine ⟨_, rfl, x, C, dx, _, _, rfl, hx8, G.cls, G.edges, rfl, ?_⟩
      refine ⟨_, ys.length, rfl, .inr ⟨_, SqT.of heT8, rfl⟩, ?_⟩
      refine ⟨_, rfl, _, _, rfl, rfl, _, _, rfl, rfl, _, rfl, x, C, dx, _, rfl, hx8, G.cls, G.genus, by show 2 < 1000; decide, ?_⟩
      have eg : V.int ((ys.length : Int) - n + 1) = .int ((es'.length : Int) - n + 1) := by rw [l8]
      intro kd nkd
      have b9 : But (· = x) H (upd H' x (.ins C dx [("n", nV n), ("edges", .ref eT), ("genus", .int ((ys.length : Int) - n + 1))])) := (b7.trans (Same.but sm8)).trans (But.mut (X := (· = x)) rfl)
      have hx9 : (upd H' x (.ins C dx [("n", nV n), ("edges", .ref eT), ("genus", .int ((ys.length : Int) - n + 1))])) x = some (.ins C dx [("n", nV n), ("edges", .ref eT), ("genus", .int ((ys.length : Int) - n + 1))]) := upd_same
      have c9 : But (· = x) H' (upd H' x (.ins C dx [("n", nV n), ("edges", .ref eT), ("genus", .int ((ys.length : Int) - n + 1))])) := But.mut (X := (· = x)) rfl
      have nkd : (upd H' x (.ins C dx [("n", nV n), ("edges", .ref eT), ("genus", .int ((ys.length : Int) - n + 1))])) kd = none := nkd
      show tVar _ _ (upd (upd H' x (.ins C dx [("n", nV n), ("edges", .ref eT), ("genus", .int ((ys.length : Int) - n + 1))])) kd (.dK [])) _
      generalize upd H' x (.ins C dx [("n", nV n), ("edges", .ref eT), ("genus", .int ((ys.length : Int) - n + 1))]) = H9 at b9 hx9 c9 nkd ⊢
      have s10 : Same H9 (upd H9 kd (.dK [])) := same_upd nkd
      have nkx : kd ≠ x := fun z => by rw [z, hx9] at nkd; cases nkd
      refine ⟨_, rfl, x, C, dx, _, rfl, s10 _ _ hx9, G.cls, G.kept, by show 3 < 1000; decide, ?_⟩
      refine q _ es' kd ((b9.trans (Same.but s10)).trans (But.mut (X := (· = x)) rfl)) ⟨dx, eT, ys, ?_, ?_, ?_⟩ hperm hlex ?_ ?_
      · rw [upd_same, ← eg]; rfl
      · rw [upd_ne neT]
        exact s10 _ _ (c9 _ _ neT heT8)
      · refine hys8.mono fun t a b e => ?_
        have : t ≠ x := fun z => by rw [z, hx8] at e; cases e
        rw [upd_ne this]
        exact s10 _ _ (c9 _ _ this e)
      · cases e : H kd with
        | none => rfl
        | some o =>
          rw [b9 _ _ nkx e] at nkd
          cases nkd
      · rw [upd_ne nkx]; exact upd_same
end
end G3

set_option Elab.async false
set_option linter.all false
set_option maxRecDepth 100000
set_option maxHeartbeats 2000000
namespace G3
open PySem PySem.Spec PyProof.Rows L2
/-! ## counts in dicts of ints -/
abbrev entN (e : Pr) : L2.Key × V := (Sum.inl (e.1 : Int), nV e.2)
def toI (e : Pr) : Int × Int := ((e.1 : Int), (e.2 : Int))
theorem map_entN (ks : List Pr) : ks.map entN = (ks.map toI).map L2.DX.entI := by rw [List.map_map]; rfl
def putN (ks : List Pr) (u v : Nat) : List Pr := if ks.any (fun e => decide (e.1 = u)) then ks.map (fun e => if e.1 = u then (e.1, v) else e) else ks ++ [(u, v)]
theorem inl_nat {a b : Nat} : (Sum.inl (a : Int) : L2.Key) = Sum.inl (b : Int) ↔ a = b := ⟨fun h => by injection h with h; omega, fun h => by rw [h]⟩
theorem putK_N (ks : List Pr) (u v : Nat) : putK (ks.map entN) (Sum.inl (u : Int)) (nV v) = (putN ks u v).map entN := by
  unfold putK putN
  have e : ((ks.map entN).any fun kv => decide (kv.1 = Sum.inl (u : Int))) = ks.any (fun e => decide (e.1 = u)) := by
    rw [List.any_map]
    congr 1
    funext x
    exact decide_eq_decide.mpr inl_nat
  rw [e]
  by_cases c : ks.any (fun e => decide (e.1 = u)) = true
  · rw [if_pos c, if_pos c, List.map_map, List.map_map]
    refine List.map_congr_left fun x _ => ?_
    show (if (entN x).1 = Sum.inl (u : Int) then ((entN x).1, nV v) else entN x) = entN (if x.1 = u then (x.1, v) else x)
    by_cases d : x.1 = u
    · rw [if_pos d, if_pos (inl_nat.mpr d)]
    · rw [if_neg d, if_neg (fun z => d (inl_nat.mp z))]
  · rw [if_neg c, if_neg c, List.map_append]; rfl
/-- the dict ks tells just the counts m that are not 0 -/
def DR (m : Nat → Nat) (ks : List Pr) : Prop := (ks.map (·.1)).Nodup ∧ ∀ u v, (u, v) ∈ ks ↔ v = m u ∧ 0 < m u
theorem val_in {u v : Nat} : ∀ {ks : List Pr}, (ks.map (·.1)).Nodup → (u, v) ∈ ks → valV (ks.map entN) (Sum.inl (u : Int)) = some (nV v)
  | [], _, h => nomatch h
  | k :: ks, hn, h => by
    rw [List.map_cons] at hn ⊢
    obtain ⟨h1, h2⟩ := List.nodup_cons.mp hn
    rcases List.mem_cons.mp h with e | h
    · rw [valV_pos (show (entN k).1 = _ by rw [← e]), ← e]
    · have : k.1 ≠ u := fun z => h1 (List.mem_map.mpr ⟨_, h, z.symm⟩)
      rw [valV_neg (fun z => this (inl_nat.mp z))]
      exact val_in h2 h
theorem val_out {u : Nat} : ∀ {ks : List Pr}, (∀ v, (u, v) ∉ ks) → valV (ks.map entN) (Sum.inl (u : Int)) = none
  | [], _ => rfl
  | k :: ks, h => by
    rw [List.map_cons]
    have : k.1 ≠ u := fun z => h k.2 (by rw [← z]; exact List.mem_cons_self ..)
    rw [valV_neg (fun z => this (inl_nat.mp z))]
    exact val_out fun v hv => h v (List.mem_cons_of_mem _ hv)
theorem DR.get {m : Nat → Nat} {ks : List Pr} (h : DR m ks) (u : Nat) : (valV (ks.map entN) (Sum.inl (u : Int))).getD (.int 0) = nV (m u) := by
  by_cases c : 0 < m u
  · rw [val_in h.1 ((h.2 u (m u)).mpr ⟨rfl, c⟩)]; rfl
  · rw [val_out fun v hv => c ((h.2 u v).mp hv).2]
    have : m u = 0 := by omega
    rw [this]; rfl
theorem DR.nil : DR (fun _ => 0) [] := ⟨List.nodup_nil, fun u v => ⟨fun h => (nomatch h), fun h => absurd h.2 (Nat.lt_irrefl 0)⟩⟩
/-- one more of u -/
def bump (m : Nat → Nat) (u x : Nat) : Nat := if x = u then m u + 1 else m x
theorem bump_eq {m : Nat → Nat} {u x : Nat} (h : x = u) : bump m u x = m u + 1 := if_pos h
theorem bump_ne {m : Nat → Nat} {u x : Nat} (h : ¬ x = u) : bump m u x = m x := if_neg h
theorem DR.put {m : Nat → Nat} {ks : List Pr} (h : DR m ks) (u : Nat) : DR (bump m u) (putN ks u (m u + 1)) := by
  unfold putN
  by_cases c : ks.any (fun e => decide (e.1 = u)) = true
  · rw [if_pos c]
    have ek : (ks.map fun e => if e.1 = u then (e.1, m u + 1) else e).map (·.1) = ks.map (·.1) := by
      rw [List.map_map]
      refine List.map_congr_left fun x _ => ?_
      show (if x.1 = u then (x.1, m u + 1) else x).1 = x.1
      split <;> rfl
    refine ⟨ek ▸ h.1, fun x v => ⟨fun hm => ?_, fun ⟨e1, e2⟩ => ?_⟩⟩
    · obtain ⟨y, hy, e⟩ := List.mem_map.mp hm
      by_cases d : y.1 = u
      · rw [if_pos d] at e
        cases e
        rw [bump_eq d]
        exact ⟨rfl, Nat.succ_pos _⟩
      · rw [if_neg d] at e
        subst e
        rw [bump_ne d]
        exact (h.2 _ _).mp hy
    · obtain ⟨y, hy, d⟩ := List.any_eq_true.mp c
      have d : y.1 = u := of_decide_eq_true d
      by_cases dx : x = u
      · rw [bump_eq dx] at e1
        refine List.mem_map.mpr ⟨y, hy, ?_⟩
        rw [if_pos d, d, e1, dx]
      · rw [bump_ne dx] at e1 e2
        exact List.mem_map.mpr ⟨(x, v), (h.2 x v).mpr ⟨e1, e2⟩, by rw [if_neg dx]⟩
  · rw [if_neg c]
    have nu : ∀ v, (u, v) ∉ ks := fun v hv => c (List.any_eq_true.mpr ⟨_, hv, decide_eq_true rfl⟩)
    have m0 : m u = 0 := by
      by_cases d : 0 < m u
      · exact absurd ((h.2 u (m u)).mpr ⟨rfl, d⟩) (nu _)
      · omega
    refine ⟨?_, fun x v => ⟨fun hm => ?_, fun ⟨e1, e2⟩ => ?_⟩⟩
    · rw [List.map_append]
      refine List.nodup_append.mpr ⟨h.1, List.nodup_cons.mpr ⟨List.not_mem_nil, List.nodup_nil⟩, fun a ha b hb e => ?_⟩
      rw [List.mem_singleton.mp hb] at e
      obtain ⟨y, hy, z⟩ := List.mem_map.mp ha
      exact nu y.2 (by rw [← (show y.1 = u from z.trans e)]; exact hy)
    · rcases List.mem_append.mp hm with hm | hm
      · have := (h.2 x v).mp hm
        have dx : x ≠ u := fun z => nu v (z ▸ hm)
        rw [bump_ne dx]; exact this
      · cases List.mem_singleton.mp hm
        rw [bump_eq rfl]; exact ⟨rfl, Nat.succ_pos _⟩
    · by_cases dx : x = u
      · rw [bump_eq dx] at e1
        exact List.mem_append.mpr (.inr (List.mem_singleton.mpr (by rw [e1, dx])))
      · rw [bump_ne dx] at e1 e2
        exact List.mem_append.mpr (.inl ((h.2 x v).mpr ⟨e1, e2⟩))
theorem DR.len {m : Nat → Nat} {ks : List Pr} (h : DR m ks) {n : Nat} (hm : ∀ u, 0 < m u → u < n) : ks.length ≤ n := by
  have : ∀ (l k : List Nat), l.Nodup → (∀ x ∈ l, x ∈ k) → l.length ≤ k.length := by
    intro l
    induction l with
    | nil => intro k _ _; exact Nat.zero_le _
    | cons a t ih =>
      intro k hn hs
      obtain ⟨h1, h2⟩ := List.nodup_cons.mp hn
      have ha := hs a (List.mem_cons_self ..)
      have := ih (k.erase a) h2 fun x hx => (List.mem_erase_of_ne (a := x) (b := a) (fun z => h1 (by rw [← z]; exact hx))).mpr (hs x (List.mem_cons_of_mem _ hx))
      rw [List.length_erase_of_mem ha] at this
      have : 0 < k.length := List.length_pos_of_mem ha
      rw [List.length_cons]; omega
  have := this (ks.map (·.1)) (List.range n) h.1 fun x hx => by
    obtain ⟨y, hy, rfl⟩ := List.mem_map.mp hx
    exact List.mem_range.mpr (hm _ ((h.2 y.1 y.2).mp hy).2)
  rwa [List.length_map, List.length_range] at this
/-- how many edges between two places -/
def mult (es : List Pr) (i u : Nat) : Nat := es.count (i, u) + es.count (u, i)
theorem mult_app {es : List Pr} {e : Pr} {i u : Nat} : mult (es ++ [e]) i u = mult es i u + ((if e = (i, u) then 1 else 0) + (if e = (u, i) then 1 else 0)) := by
  unfold mult
  rw [List.count_append, List.count_append, List.count_singleton, List.count_singleton]
  have h1 : (if (e == (i, u)) = true then 1 else 0) = (if e = (i, u) then 1 else 0) := by simp
  have h2 : (if (e == (u, i)) = true then 1 else 0) = (if e = (u, i) then 1 else 0) := by simp
  rw [h1, h2]; omega
theorem mult_pos {es : List Pr} {i u n : Nat} (h : ∀ e ∈ es, e.1 < n ∧ e.2 < n) (hm : 0 < mult es i u) : u < n := by
  unfold mult at hm
  by_cases c : 0 < es.count (i, u)
  · exact (h _ (List.count_pos_iff.mp c)).2
  · exact (h _ (List.count_pos_iff.mp (by omega : 0 < es.count (u, i)))).1
/-- the counts in the order of their places -/
def IsLine (m : Nat → Nat) (l : List Pr) : Prop := (l.map (·.1)).Pairwise (· < ·) ∧ ∀ u v, (u, v) ∈ l ↔ v = m u ∧ 0 < m u
end G3

set_option Elab.async false
set_option linter.all false
set_option maxRecDepth 100000
set_option maxHeartbeats 2000000
namespace G3
open PySem PySem.Spec PyProof.Rows L2
theorem dict_ne {kvs : List (L2.Key × V)} {xs : List V} : HO.lst xs ≠ .dK kvs ∧ HO.tup xs ≠ .dK kvs := ⟨fun h => (nomatch h), fun h => (nomatch h)⟩
/-- all but the dict at kd stands -/
theorem But.lst {H H' : Hp} {kd a : Addr} {kvs : List (L2.Key × V)} {xs : List V} (b : But (· = kd) H H') (hk : H kd = some (.dK kvs)) (h : H a = some (.lst xs)) : H' a = some (.lst xs) := b _ _ (ne_of h hk dict_ne.1) h
theorem But.tup {H H' : Hp} {kd a : Addr} {kvs : List (L2.Key × V)} {xs : List V} (b : But (· = kd) H H') (hk : H kd = some (.dK kvs)) (h : H a = some (.tup xs)) : H' a = some (.tup xs) := b _ _ (ne_of h hk dict_ne.2) h
theorem But.prs {H H' : Hp} {kd : Addr} {kvs : List (L2.Key × V)} (b : But (· = kd) H H') (hk : H kd = some (.dK kvs)) {vs : List V} {ps : List Pr} (h : Prs H vs ps) : Prs H' vs ps := h.mono fun _ _ _ e => b.tup hk e
/-- the lines of a graph; R: whose things are its own -/
def BesAt (H : Hp) (R : Addr → Prop) (v : V) (n : Nat) (es : List Pr) : Prop := ∃ (LB : Addr) (as : List Addr), v = .ref LB ∧ R LB ∧ H LB = some (.lst (as.map V.ref)) ∧ as.length = n ∧
  ∀ i a, as[i]? = some a → R a ∧ ∃ (ws : List V) (l : List Pr), H a = some (.lst ws) ∧ (∀ t, V.ref t ∈ ws → R t) ∧ Prs H ws l ∧ IsLine (mult es i) l
theorem Prs.stay {H H' : Hp} {R : Addr → Prop} (b : ∀ x o, R x → H x = some o → H' x = some o) : ∀ {vs : List V} {ps : List Pr}, (∀ t, V.ref t ∈ vs → R t) → Prs H vs ps → Prs H' vs ps
  | [], [], _, _ => True.intro
  | v :: vs, p :: ps, hr, ⟨⟨t, h1, h2⟩, h⟩ => ⟨⟨t, h1, b _ _ (hr t (by rw [h1]; exact List.mem_cons_self ..)) h2⟩, Prs.stay b (fun u hu => hr u (List.mem_cons_of_mem _ hu)) h⟩
  | [], _ :: _, _, h => h.elim
  | _ :: _, [], _, h => h.elim
theorem BesAt.stay {H H' : Hp} {R R' : Addr → Prop} {v : V} {n : Nat} {es : List Pr} (b : ∀ x o, R x → H x = some o → H' x = some o) (hr : ∀ x, R x → R' x) (h : BesAt H R v n es) : BesAt H' R' v n es := by
  obtain ⟨LB, as, e, r1, h1, h2, h3⟩ := h
  refine ⟨LB, as, e, hr _ r1, b _ _ r1 h1, h2, fun i a hi => ?_⟩
  obtain ⟨r2, ws, l, k1, k2, k3, k4⟩ := h3 i a hi
  exact ⟨hr _ r2, ws, l, b _ _ r2 k1, fun t ht => hr _ (k2 t ht), k3.stay b k2, k4⟩
/-- what a graph keeps: for each name what it stands for -/
structure Memo where
  keys : List L2.Key
  M : Hp → (Addr → Prop) → Nat → List Pr → L2.Key → V → Prop
  few : keys.length ≤ 1000
  stay : ∀ {H H' : Hp} {R R' : Addr → Prop} {n : Nat} {es : List Pr} {k : L2.Key} {v : V}, (∀ x o, R x → H x = some o → H' x = some o) → (∀ x, R x → R' x) → M H R n es k v → M H' R' n es k v
/-- it keeps the lines -/
structure MemoB (m : Memo) : Prop where
  key : (Sum.inr "chip beside" : L2.Key) ∈ m.keys
  iff : ∀ H R n es v, m.M H R n es (Sum.inr "chip beside") v ↔ BesAt H R v n es
theorem ins_dK {C dx : Addr} {fs : List (Str × V)} {kvs : List (L2.Key × V)} : HO.ins C dx fs ≠ .dK kvs := fun h => by cases h
def GrR (H : Hp) (R : Addr → Prop) (C g kd : Addr) (n : Nat) (es : List Pr) : Prop := ∃ (dx eT : Addr) (vs : List V), H g = some (.ins C dx [("n", nV n), ("edges", .ref eT), ("genus", .int ((es.length : Int) - n + 1)), ("kept", .ref kd)]) ∧ H eT = some (.tup vs) ∧ Prs H vs es ∧ R g ∧ R eT ∧ ∀ t, V.ref t ∈ vs → R t
theorem GrR.stay {H H' : Hp} {R R' : Addr → Prop} {C g kd : Addr} {n : Nat} {es : List Pr} (b : ∀ x o, R x → H x = some o → H' x = some o) (hr : ∀ x, R x → R' x) (h : GrR H R C g kd n es) : GrR H' R' C g kd n es := by
  obtain ⟨dx, eT, vs, h1, h2, h3, r1, r2, r3⟩ := h
  exact ⟨dx, eT, vs, b _ _ r1 h1, b _ _ r2 h2, h3.stay b r3, hr _ r1, hr _ r2, fun t ht => hr _ (r3 t ht)⟩
def Gr (m : Memo) (H : Hp) (C g kd : Addr) (R : Addr → Prop) (n : Nat) (es : List Pr) : Prop := GrR H R C g kd n es ∧ Good n es ∧ 1 ≤ n ∧ n ≤ 64 ∧ es.length ≤ 400 ∧ Lex es ∧ (∀ x, R x → H x ≠ none ∧ x ≠ kd) ∧
  ∃ kvs : List (L2.Key × V), H kd = some (.dK kvs) ∧ (kvs.map (·.1)).Nodup ∧ ∀ k v, (k, v) ∈ kvs → k ∈ m.keys ∧ m.M H R n es k v
theorem Gr.stay {m : Memo} {H H' : Hp} {C g kd : Addr} {R : Addr → Prop} {n : Nat} {es : List Pr} (h : Gr m H C g kd R n es) (b : ∀ x o, R x ∨ x = kd → H x = some o → H' x = some o) : Gr m H' C g kd R n es := by
  obtain ⟨h1, h2, h3, h4, h5, h6, h7, kvs, k1, k2, k3⟩ := h
  have b1 : ∀ x o, R x → H x = some o → H' x = some o := fun x o r e => b x o (.inl r) e
  refine ⟨h1.stay b1 fun _ r => r, h2, h3, h4, h5, h6, fun x r => ⟨?_, (h7 x r).2⟩, kvs, b _ _ (.inr rfl) k1, k2, fun k v hm => ⟨(k3 k v hm).1, m.stay b1 (fun _ r => r) (k3 k v hm).2⟩⟩
  cases e : H x with
  | none => exact absurd e (h7 x r).1
  | some o => rw [b1 x o r e]; exact fun z => nomatch z
/-- other things may come and go -/
theorem Gr.same {m : Memo} {H H' : Hp} {C g kd : Addr} {R : Addr → Prop} {n : Nat} {es : List Pr} (h : Gr m H C g kd R n es) (e : Same H H') : Gr m H' C g kd R n es := h.stay fun x o _ z => e x o z
theorem Gr.but {m : Memo} {H H' : Hp} {X : Addr → Prop} {C g kd : Addr} {R : Addr → Prop} {n : Nat} {es : List Pr} (h : Gr m H C g kd R n es) (e : But X H H') (hx : ∀ x, X x → ¬ R x ∧ x ≠ kd) : Gr m H' C g kd R n es :=
  h.stay fun x o r z => e x o (fun q => r.elim (hx x q).1 (hx x q).2) z
theorem val_mem {k : L2.Key} {v : V} : ∀ {kvs : List (L2.Key × V)}, valV kvs k = some v → (k, v) ∈ kvs
  | [], h => nomatch h
  | p :: r, h => by
    by_cases e : p.1 = k
    · rw [valV_pos e] at h
      rw [← e, ← Option.some.inj h]
      exact List.mem_cons_self ..
    · rw [valV_neg e] at h
      exact List.mem_cons_of_mem _ (val_mem h)
theorem val_none {k : L2.Key} : ∀ {kvs : List (L2.Key × V)}, valV kvs k = none → k ∉ kvs.map (·.1)
  | [], _, h => nomatch h
  | p :: r, h, hm => by
    by_cases e : p.1 = k
    · rw [valV_pos e] at h; cases h
    · rw [valV_neg e] at h
      rw [List.map_cons] at hm
      rcases List.mem_cons.mp hm with z | z
      · exact e z.symm
      · exact val_none h z
theorem few_keys : ∀ (l k : List L2.Key), l.Nodup → (∀ x ∈ l, x ∈ k) → l.length ≤ k.length
  | [], _, _, _ => Nat.zero_le _
  | a :: t, k, hn, hs => by
    obtain ⟨h1, h2⟩ := List.nodup_cons.mp hn
    have ha := hs a (List.mem_cons_self ..)
    have h3 := few_keys t (k.filter fun x => decide (x ≠ a)) h2 fun x hx => List.mem_filter.mpr ⟨hs x (List.mem_cons_of_mem _ hx), decide_eq_true (fun z => h1 (by rw [← z]; exact hx))⟩
    have h4 : (k.filter fun x => decide (x ≠ a)).length < k.length := List.length_filter_lt_length_iff_exists.mpr ⟨a, ha, by simp⟩
    rw [List.length_cons]; omega
/-- one more thing is kept: v under the new name k; it may have come with new things of its own -/
theorem Gr.keep {m : Memo} {H : Hp} {C g kd : Addr} {R R' : Addr → Prop} {n : Nat} {es : List Pr} {kvs : List (L2.Key × V)} {k : L2.Key} {v : V} (h : Gr m H C g kd R n es) (hk : H kd = some (.dK kvs)) (hn : valV kvs k = none) (hm : k ∈ m.keys)
    (hr : ∀ x, R x → R' x) (h7' : ∀ x, R' x → H x ≠ none ∧ x ≠ kd) (hv : m.M H R' n es k v) :
    kvs.length < sizeLine ∧ Gr m (upd H kd (.dK (putK kvs k v))) C g kd R' n es := by
  obtain ⟨h1, h2, h3, h4, h5, h6, h7, kvs', k1, k2, k3⟩ := h
  rw [hk] at k1
  cases k1
  have len : kvs.length ≤ 1000 := by
    have := few_keys (kvs.map (·.1)) m.keys k2 fun x hx => by
      obtain ⟨y, hy, rfl⟩ := List.mem_map.mp hx
      exact (k3 y.1 y.2 hy).1
    rw [List.length_map] at this
    exact Nat.le_trans this m.few
  rw [putK_new v hn]
  have b' : ∀ x o, R' x → H x = some o → (upd H kd (.dK (kvs ++ [(k, v)]))) x = some o := fun x o r e => by rw [upd_ne (h7' x r).2]; exact e
  have b : ∀ x o, R x → H x = some o → (upd H kd (.dK (kvs ++ [(k, v)]))) x = some o := fun x o r e => b' x o (hr x r) e
  refine ⟨size_lt (by omega), h1.stay b hr, h2, h3, h4, h5, h6, fun x r => ⟨?_, (h7' x r).2⟩, _, upd_same, ?_, ?_⟩
  · rw [upd_ne (h7' x r).2]; exact (h7' x r).1
  · rw [List.map_append]
    refine List.nodup_append.mpr ⟨k2, List.nodup_cons.mpr ⟨List.not_mem_nil, List.nodup_nil⟩, fun a ha c hc e => ?_⟩
    rw [List.mem_singleton.mp hc] at e
    exact val_none hn (by rw [← (show a = k from e)]; exact ha)
  · intro k' v' hm'
    rcases List.mem_append.mp hm' with z | z
    · exact ⟨(k3 k' v' z).1, m.stay b hr (k3 k' v' z).2⟩
    · cases List.mem_singleton.mp z
      exact ⟨hm, m.stay b' (fun _ r => r) hv⟩
theorem Gr.free {m : Memo} {H H' : Hp} {C g kd L : Addr} {R : Addr → Prop} {n : Nat} {es : List Pr} (h : Gr m H' C g kd R n es) (b : But (· = kd) H H') (nL : H' L = none) : H L = none := by
  cases e : H L with
  | none => rfl
  | some o =>
    obtain ⟨_, _, _, _, _, _, _, kvs, k1, _⟩ := h
    by_cases c : L = kd
    · rw [c, k1] at nL; cases nL
    · rw [b _ _ c e] at nL; cases nL
theorem dput_n {H : Hp} {a : Addr} {ks : List Pr} {u k : Nat} {y v : V} (h : H a = some (.dK (ks.map entN))) (hl : ks.length ≤ 1000) (hy : y = nV u) (hv : v = nV k) : DPut H a y v (upd H a (.dK ((putN ks u k).map entN))) := by
  subst hy; subst hv
  rw [← putK_N]
  exact DPut.k (k := Sum.inl (u : Int)) h (size_lt (by rw [List.length_map]; omega))
theorem DR.congr {m m' : Nat → Nat} {ks : List Pr} (h : DR m ks) (e : ∀ u, m u = m' u) : DR m' ks := ⟨h.1, fun u v => by rw [← e u]; exact h.2 u v⟩
theorem mult_take {es : List Pr} {i : Nat} {e : Pr} (h : es[i]? = some e) {v u : Nat} : mult (es.take (i + 1)) v u = mult (es.take i) v u + ((if e = (v, u) then 1 else 0) + (if e = (u, v) then 1 else 0)) := by
  rw [List.take_add_one, h]
  exact mult_app
theorem bump_one {es : List Pr} {i a b v : Nat} (h : es[i]? = some (a, b)) (hab : a < b) (ks : Nat → List Pr) (hk : ∀ v, DR (mult (es.take i) v) (ks v)) :
    DR (mult (es.take (i + 1)) v) (if v = b then putN (if b = a then putN (ks a) b (mult (es.take i) a b + 1) else ks b) a (mult (es.take i) b a + 1) else if v = a then putN (ks a) b (mult (es.take i) a b + 1) else ks v) := by
  have nab : ¬ b = a := by omega
  by_cases c : v = b
  · subst c
    rw [if_pos rfl, if_neg nab]
    refine ((hk v).put a).congr fun u => ?_
    rw [mult_take h]
    by_cases d : u = a
    · subst d
      rw [bump_eq rfl, if_neg (show ¬ (u, v) = (v, u) from fun z => by cases z; omega), if_pos rfl]
    · rw [bump_ne d, if_neg (show ¬ (a, v) = (v, u) from fun z => by cases z; omega), if_neg (show ¬ (a, v) = (u, v) from fun z => by cases z; exact d rfl)]; rfl
  · rw [if_neg c]
    by_cases c2 : v = a
    · subst c2
      rw [if_pos rfl]
      refine ((hk v).put b).congr fun u => ?_
      rw [mult_take h]
      by_cases d : u = b
      · subst d
        rw [bump_eq rfl, if_pos rfl, if_neg (show ¬ (v, u) = (u, v) from fun z => by cases z; omega)]
      · rw [bump_ne d, if_neg (show ¬ (v, b) = (v, u) from fun z => by cases z; exact d rfl), if_neg (show ¬ (v, b) = (u, v) from fun z => by cases z; omega)]; rfl
    · rw [if_neg c2]
      refine (hk v).congr fun u => ?_
      rw [mult_take h, if_neg (show ¬ (a, b) = (v, u) from fun z => by cases z; exact c2 rfl), if_neg (show ¬ (a, b) = (u, v) from fun z => by cases z; exact c rfl)]; rfl
/-- the sorted items are the line -/
theorem line_of {m : Nat → Nat} {ks : List Pr} {l : List (Int × Int)} (h : DR m ks) (hp : l.Perm (ks.map toI)) (hs : l.Pairwise fun e f => e.1 ≤ f.1) : IsLine m (l.map fun e => (e.1.toNat, e.2.toNat)) ∧ ∀ e ∈ l, e = ((e.1.toNat : Int), (e.2.toNat : Int)) := by
  have hl : ∀ e ∈ l, e = ((e.1.toNat : Int), (e.2.toNat : Int)) := fun e he => by
    obtain ⟨k, _, rfl⟩ := List.mem_map.mp (hp.mem_iff.mp he)
    rfl
  have hpn : (l.map fun e => (e.1.toNat, e.2.toNat)).Perm ks := by
    have := hp.map fun e : Int × Int => (e.1.toNat, e.2.toNat)
    rw [List.map_map] at this
    have e : ks.map ((fun e : Int × Int => (e.1.toNat, e.2.toNat)) ∘ toI) = ks := by
      have : ((fun e : Int × Int => (e.1.toNat, e.2.toNat)) ∘ toI) = id := by funext x; rfl
      rw [this, List.map_id]
    rwa [e] at this
  refine ⟨⟨?_, fun u v => ⟨fun hm => (h.2 u v).mp (hpn.mem_iff.mp hm), fun hm => hpn.mem_iff.mpr ((h.2 u v).mpr hm)⟩⟩, hl⟩
  have hnd : ((l.map fun e => (e.1.toNat, e.2.toNat)).map (·.1)).Nodup := (hpn.map (·.1)).nodup_iff.mpr h.1
  rw [List.map_map] at hnd ⊢
  have hle : (l.map ((·.1) ∘ fun e : Int × Int => (e.1.toNat, e.2.toNat))).Pairwise (· ≤ ·) := by
    rw [List.pairwise_map]
    exact hs.imp fun {x y} h => by
      show x.1.toNat ≤ y.1.toNat
      omega
  exact (List.Pairwise.and hle hnd).imp fun {x y} h => Nat.lt_of_le_of_ne h.1 h.2
section
variable {P : Program} {w : World} {K : PySem.W.Frag} {mg : Str → Option Value} {base : Heap} {C : Addr}
abbrev n_beside : List Str := ["graph", "found", "one", "other", "_", "line"]
abbrev p_beside : List Str := ["graph"]
theorem sc_beside : FnScope n_beside p_beside (defScope s_beside) := ⟨rfl, rfl, rfl, by decide +kernel, rfl, by decide +kernel, by decide +kernel⟩
abbrev n_valences : List Str := ["graph", "line", "_", "many"]
abbrev p_valences : List Str := ["graph"]
theorem sc_valences : FnScope n_valences p_valences (defScope s_valences) := ⟨rfl, rfl, rfl, by decide +kernel, rfl, by decide +kernel, by decide +kernel⟩
def spBeside (m : Memo) (C : Addr) : Sp := fun vs H Q _ => ∃ (g kd : Addr) (R : Addr → Prop) (n : Nat) (es : List Pr), vs = [.ref g] ∧ Gr m H C g kd R n es ∧ ∀ (H' : Hp) (R' : Addr → Prop) (v : V), But (· = kd) H H' → Gr m H' C g kd R' n es → (∀ x, R x → R' x) → (∀ x, R' x → R x ∨ H x = none) → BesAt H' R' v n es → Q v H'
theorem ok_beside {m : Memo} (mb : MemoB m) (D : DefAt K mg "beside" "beside" s_beside) (B : Bt mg) (G : GraphC K C) : Has P w K mg base CX0 1 "beside" p_beside (spBeside m C) := by
  refine has_of D sc_beside (fun _ _ _ _ _ _ us hl => match us, hl with | [_], _ => rfl) (fun vs H Q E h => ?_) (fun f cdv A outer s H vs Q E hr h => ?_)
  · obtain ⟨g, kd, R, n, es, rfl, _⟩ := h
    rfl
  · obtain ⟨g, kd, R, n, es, rfl, gr, q⟩ := h
    have hu : (cxOf CX0 P w K mg base n_beside "beside" (defScope s_beside) f cdv A outer s H E).nox.A.units + 1 < cLine := Nat.lt_of_le_of_lt (Nat.add_le_add_left (by decide : 1 ≤ 64) _) hr.units
    refine ⟨_, (Evl.pss_cut (ps_if (pt_cmp (pc_dnotin hu pe_str (fldK (K := K) rfl (pv 0) rfl))) (pss_cons (ps_setLc (i := 1) (own := [("_", 4)]) (g := gName 4) (tt := tYes) rfl sc_beside.nd rfl rfl (sw_true rfl rfl rfl (by decide +kernel)) (pi_range1 rfl B.range (pa_cons (fldK (K := K) rfl (pv 0) rfl) pa_nil)) (blkOk_by (N := n_beside) (sc := defScope s_beside) (by decide +kernel)) (fun _ _ _ _ _ => (pg_name (i := 4) sc_beside.nd rfl (.inl rfl))) (fun _ _ _ _ _ => pts_nil) (fun _ _ _ _ _ => (pe_dnewK)))
  (pss_cons (ps_for PassesOwn.never rfl (piT (K := K) rfl (fldK (K := K) rfl (pv 0) rfl)) (pgT (K := K) (n := 2) rfl rfl (pgs_cons (pg_name (i := 2) sc_beside.nd rfl (.inl rfl)) (pgs_cons (pg_name (i := 3) sc_beside.nd rfl (.inl rfl)) pgs_nil))) (pss_cons (ps_dput hu (pe_ix (ixL (K := K) rfl) (pv 1) (pv 2) (fun _ _ => rfl)) (pv 3) (pe_op op_add (pe_dget2 hu (pe_ix (ixL (K := K) rfl) (pv 1) (pv 2) (fun _ _ => rfl)) (pv 3) pe_int ⟨rfl, rfl, rfl, rfl⟩) pe_int) rfl)
  (pss_one (ps_dput hu (pe_ix (ixL (K := K) rfl) (pv 1) (pv 3) (fun _ _ => rfl)) (pv 2) (pe_op op_add (pe_dget2 hu (pe_ix (ixL (K := K) rfl) (pv 1) (pv 3) (fun _ _ => rfl)) (pv 2) pe_int ⟨rfl, rfl, rfl, rfl⟩) pe_int) rfl))))
  (pss_one (ps_dput hu (fldK (K := K) rfl (pv 0) rfl) pe_str (pe_lc (own := [("line", 5)]) (g := gName 5) (tt := tYes) rfl sc_beside.nd (piL (K := K) rfl (pv 1)) (blkOk_by (N := n_beside) (sc := defScope s_beside) (by decide +kernel)) (fun _ _ _ _ _ => (pg_name (i := 5) sc_beside.nd rfl (.inl rfl))) (fun _ _ _ _ _ => pts_nil) (fun _ _ _ _ _ => (pe_callB (L2.DX.cr_sortedItemsI rfl) rfl B.sorted (by decide +kernel) (pa_cons (bm0N (K := K) rfl PySem.F.plainAttrs_dict PySem.F.slot_dict_items PySem.F.type_dict_items L2.DX.mt_itemsK (pv 5)) pa_nil)))) rfl)))) pss_nil)
  (pss_one (ps_ret (pe_dget hu (fldK (K := K) rfl (pv 0) rfl) pe_str (fun _ _ => rfl))))), ?_⟩
    obtain ⟨⟨dx, eT, vs, hg, heT, hvs, _, _, _⟩, good, hn1, hn64, he4, hlex, hR, kvs, hkd, hnd, hM⟩ := id gr
    refine ⟨fun σ H' => ∃ (y z u t r : Option V) (kvs : List (L2.Key × V)) (v : V) (R' : Addr → Prop), σ = [some (.ref g), y, z, u, t, r] ∧ But (· = kd) H H' ∧ Gr m H' C g kd R' n es ∧ (∀ x, R x → R' x) ∧ (∀ x, R' x → R x ∨ H x = none) ∧ H' kd = some (.dK kvs) ∧ valV kvs (Sum.inr "chip beside") = some v, ?_, ?_⟩
    · refine ⟨_, rfl, g, C, dx, _, _, rfl, hg, G.cls, G.kept, rfl, kd, _, rfl, DGet.k (k := Sum.inr "chip beside") hkd, _, rfl, ?_⟩
      cases hv : valV kvs (Sum.inr "chip beside") with
      | some v => exact iteF ⟨_, _, _, _, _, kvs, v, R, rfl, But.refl, gr, fun _ r => r, fun _ r => .inl r, hkd, hv⟩
      | none =>
        refine iteT ?_
        have edg : ∀ e ∈ es, e.1 < n ∧ e.2 < n := fun e he => by have := good.1 e he; omega
        -- found
        refine ⟨_, rfl, g, C, dx, _, _, rfl, hg, G.cls, G.n, rfl, n, rfl, by omega, by omega, fun B0 nB => ?_⟩
        refine lc_range (lo := 0) (n := n) (fun i H2 => Same H H2 ∧ ∃ as, as.length = i ∧ Rows H2 B0 as (fun _ => .dK []) ∧ ∀ a ∈ as, H a = none) ⟨same_upd nB, [], rfl, Rows.nil, fun a h => nomatch h⟩ ?_ ?_
        · rintro i H2 hi ⟨sm, as, las, ro, fr⟩
          refine ⟨rfl, yes_ ?_⟩
          intro a na
          obtain ⟨p1, p2⟩ := ro.push (o := .dK []) na rfl
          refine ⟨_, p1, size_lt (by rw [List.length_map]; omega), same_mut (sm.trans (same_upd na)) nB, as ++ [a], by rw [List.length_append, las]; rfl, p2, fun x hx => ?_⟩
          rcases List.mem_append.mp hx with hx | hx
          · exact fr x hx
          · rw [List.mem_singleton.mp hx]; exact sm.free na
        rintro H2 ⟨sm2, as, las, ro, fr⟩
        have notAs : ∀ x o, H x = some o → ¬ x ∈ as := fun x o e z => by
          have := fr x z
          rw [e] at this; cases this
        -- the edges
        refine ⟨_, rfl, g, C, dx, _, _, rfl, sm2 _ _ hg, G.cls, G.edges, rfl, eT, rfl, ⟨_, SqT.of (sm2 _ _ heT)⟩, ?_⟩
        refine for_tup (K := K) (a := eT) (xs := vs) (fun i σ H' => ∃ (y z t r : Option V) (ks : Nat → List Pr), σ = [some (.ref g), some (.ref B0), y, z, t, r] ∧ But (· ∈ as) H2 H' ∧ Rows H' B0 as (fun v => .dK ((ks v).map entN)) ∧ ∀ v, DR (mult (es.take i) v) (ks v)) ?_ ?_ ?_ ?_
        · exact ⟨_, _, _, _, fun _ => [], rfl, But.refl, ro, fun v => DR.nil.congr fun u => rfl⟩
        · rintro i σ H' hi ⟨_, _, _, _, _, _, bt, _⟩
          exact SqT.of (bt _ _ (notAs _ _ heT) (sm2 _ _ heT))
        · rintro i x σ H' hx ⟨y, z, t, r, ks, rfl, bt, ro', hk⟩
          have hi : i < es.length := by rw [← hvs.len]; exact (List.getElem?_eq_some_iff.mp hx).1
          obtain ⟨t, e1, e2⟩ := hvs.get hi
          rw [hx] at e1
          obtain rfl := Option.some.inj e1
          obtain ⟨b1, b2⟩ := good.1 _ (List.getElem_mem hi)
          have hes : es[i]? = some es[i] := List.getElem?_eq_getElem hi
          generalize es[i] = e at e2 b1 b2 hes
          obtain ⟨a, b⟩ := e
          have ht : H' t = some (.tup [nV a, nV b]) := bt _ _ (notAs _ _ e2) (sm2 _ _ e2)
          refine ⟨t, _, rfl, SqT.of ht, rfl, _, _, rfl, _, _, rfl, rfl, ?_⟩
          have b1 : a < b := b1
          have b2 : b < n := b2
          have la : a < as.length := by omega
          have lb : b < as.length := by omega
          have tl : ∀ e ∈ es.take i, e.1 < n ∧ e.2 < n := fun e he => edg e (List.mem_of_mem_take he)
          have lks : ∀ v, (ks v).length ≤ n := fun v => (hk v).len fun u hu => mult_pos tl hu
          have ha := (ro'.at la).2
          refine ⟨_, rfl, _, rfl, _, _, a, .ref as[a], rfl, rfl, SqL.of ro'.1, atI_nat (rows_get la), as[a], rfl, .inl ⟨_, .inl ha⟩, _, rfl, _, DGet.k (k := Sum.inl (b : Int)) ha, ?_⟩
          refine ⟨_, _, (hk a).get b, rfl, ?_⟩
          refine ⟨_, rfl, _, rfl, _, _, a, .ref as[a], rfl, rfl, SqL.of ro'.1, atI_nat (rows_get la), _, rfl, as[a], _, rfl, dput_n (k := mult (es.take i) a b + 1) ha (by have := lks a; omega) rfl rfl, ?_⟩
          have r1 := ro'.set (o := .dK ((putN (ks a) b (mult (es.take i) a b + 1)).map entN)) (List.getElem?_eq_getElem la)
          have m1 : But (· ∈ as) H' (upd H' as[a] (.dK ((putN (ks a) b (mult (es.take i) a b + 1)).map entN))) := But.mut (X := (· ∈ as)) (List.getElem_mem la)
          generalize upd H' as[a] (.dK ((putN (ks a) b (mult (es.take i) a b + 1)).map entN)) = H3 at r1 m1
          have nab : ¬ b = a := by omega
          have hb := (r1.at lb).2
          have hb : H3 as[b] = some (.dK ((ks b).map entN)) := by rw [hb]; show some (if b = a then _ else _) = _; rw [if_neg nab]
          refine ⟨_, rfl, _, rfl, _, _, b, .ref as[b], rfl, rfl, SqL.of r1.1, atI_nat (rows_get lb), as[b], rfl, .inl ⟨_, .inl hb⟩, _, rfl, _, DGet.k (k := Sum.inl (a : Int)) hb, ?_⟩
          refine ⟨_, _, (hk b).get a, rfl, ?_⟩
          refine ⟨_, rfl, _, rfl, _, _, b, .ref as[b], rfl, rfl, SqL.of r1.1, atI_nat (rows_get lb), _, rfl, as[b], _, rfl, dput_n (k := mult (es.take i) b a + 1) hb (by have := lks b; omega) rfl rfl, ?_⟩
          refine ⟨_, _, _, _, _, rfl, (bt.trans m1).trans (But.mut (X := (· ∈ as)) (List.getElem_mem lb)), ?_, fun v => bump_one hes b1 ks hk⟩
          refine (r1.set (List.getElem?_eq_getElem lb)).to fun v hv => ?_
          show (if v = b then HO.dK ((putN (ks b) a (mult (es.take i) b a + 1)).map entN) else if v = a then HO.dK ((putN (ks a) b (mult (es.take i) a b + 1)).map entN) else .dK ((ks v).map entN)) = _
          rw [if_neg nab]
          split
          · rfl
          · split <;> rfl
        · rintro σ H3 ⟨y, z, t, r, ks, rfl, bt, ro', hk⟩
          rw [hvs.len, List.take_length] at hk
          have s3 : Same H H3 := bt.same sm2 fr
          refine ⟨_, rfl, B0, rfl, ⟨_, SqL.of ro'.1⟩, fun L nL => ?_⟩
          refine lc_list (K := K) (a := B0) (xs := as.map V.ref) (fun i H4 => Same H3 H4 ∧ ∃ ls : List Addr, ls.length = i ∧ H4 L = some (.lst (ls.map V.ref)) ∧ ∀ j a, ls[j]? = some a → a ≠ L ∧ H a = none ∧ ∃ (ws : List V) (l : List Pr), H4 a = some (.lst ws) ∧ (∀ t, V.ref t ∈ ws → H t = none ∧ H4 t ≠ none) ∧ Prs H4 ws l ∧ IsLine (mult es j) l) ?_ ?_ ?_ ?_
          · exact ⟨same_upd nL, [], rfl, upd_same, fun j a h => nomatch h⟩
          · rintro i H4 _ ⟨sm, _⟩
            exact SqL.of (sm _ _ ro'.1)
          · rintro i x H4 hx ⟨sm, ls, ll, hL, hls⟩
            have hi : i < as.length := by have := (List.getElem?_eq_some_iff.mp hx).1; rwa [List.length_map] at this
            rw [rows_get hi] at hx
            obtain rfl := Option.some.inj hx
            refine ⟨rfl, yes_ ?_⟩
            have hd := sm _ _ (ro'.at hi).2
            refine ⟨_, rfl, .inr (.inr (.inl ⟨rfl, .inl ⟨_, hd⟩⟩)), as[i], _, rfl, rfl, hd, fun pv npv => ?_⟩
            have sv : Same H4 (upd H4 pv (L2.DX.itemsO pv as[i])) := same_upd npv
            have hpv : (upd H4 pv (L2.DX.itemsO pv as[i])) pv = some (L2.DX.itemsO pv as[i]) := upd_same
            generalize upd H4 pv (L2.DX.itemsO pv as[i]) = H5 at sv hpv
            have hd5 := sv _ _ hd
            rw [map_entN] at hd5
            refine ⟨pv, as[i], (ks i).map toI, rfl, hpv, hd5, fun H6 l zs sm6 nl hp hs hl hz => ?_⟩
            obtain ⟨li, le⟩ := line_of (hk i) hp hs
            have s46 : Same H4 H6 := sv.trans sm6
            have nlL : l ≠ L := fun z => by
              rw [z, sv _ _ hL] at nl; cases nl
            have prs : Prs H6 (zs.map fun z => V.ref z.1) ((zs.map (·.2)).map fun e => (e.1.toNat, e.2.toNat)) := by
              clear hl hp hs li
              induction zs with
              | nil => exact True.intro
              | cons z zs ih =>
                refine ⟨⟨z.1, rfl, ?_⟩, ih (fun y hy => hz y (List.mem_cons_of_mem _ hy)) fun e he => le e (List.mem_cons_of_mem _ he)⟩
                have h1 := (hz z (List.mem_cons_self ..)).2
                have h2 := le z.2 (List.mem_cons_self ..)
                have h3 : z.2.1 = (z.2.1.toNat : Int) := congrArg Prod.fst h2
                have h4 : z.2.2 = (z.2.2.toNat : Int) := congrArg Prod.snd h2
                rw [h1]
                show some (HO.tup [.int z.2.1, .int z.2.2]) = some (HO.tup [.int (z.2.1.toNat : Int), .int (z.2.2.toNat : Int)])
                rw [← h3, ← h4]
            have grow : ∀ t, H4 t ≠ none → (upd H6 L (.lst (ls.map V.ref ++ [.ref l]))) t ≠ none := fun t ht => by
              by_cases c : t = L
              · rw [c, upd_same]; exact fun z => nomatch z
              · rw [upd_ne c]
                cases e : H4 t with
                | none => exact absurd e ht
                | some o => rw [s46 _ _ e]; exact fun z => nomatch z
            refine ⟨_, s46 _ _ hL, size_lt (by rw [List.length_map]; omega), same_mut (sm.trans s46) nL, ls ++ [l], by rw [List.length_append, ll]; rfl, by rw [upd_same, List.map_append]; rfl, fun j a hj => ?_⟩
            by_cases c : j < ls.length
            · rw [List.getElem?_append_left c] at hj
              obtain ⟨g1, g0, ws, l', g2, g5, g3, g4⟩ := hls j a hj
              refine ⟨g1, g0, ws, l', ?_, fun t ht => ⟨(g5 t ht).1, grow _ ((g5 t ht).2)⟩, (g3.same s46).mut (s46 _ _ hL), g4⟩
              rw [upd_ne g1]; exact s46 _ _ g2
            · have hl2 := (List.getElem?_eq_some_iff.mp hj).1
              rw [List.length_append] at hl2
              have : j = ls.length := by simp at hl2; omega
              subst this
              rw [List.getElem?_append_right (Nat.le_refl _)] at hj
              have : a = l := by simpa using hj.symm
              subst this
              rw [ll]
              refine ⟨nlL, (s3.trans (sm.trans sv)).free nl, _, _, by rw [upd_ne nlL]; exact hl, fun t ht => ?_, prs.mut (s46 _ _ hL), li⟩
              obtain ⟨z, hz', e⟩ := List.mem_map.mp ht
              cases e
              obtain ⟨q1, q2⟩ := hz z hz'
              exact ⟨(s3.trans (sm.trans sv)).free q1, by
                by_cases c : z.1 = L
                · rw [c, upd_same]; exact fun z => nomatch z
                · rw [upd_ne c, q2]; exact fun z => nomatch z⟩
          · rintro H4 ⟨sm, ls, ll, hL, hls⟩
            have s4 : Same H H4 := s3.trans sm
            rw [List.length_map, las] at ll
            have hR' : ∀ x, (R x ∨ (H x = none ∧ H4 x ≠ none)) → H4 x ≠ none ∧ x ≠ kd := fun x r => by
              rcases r with r | ⟨r1, r2⟩
              · refine ⟨?_, (hR x r).2⟩
                cases e : H x with
                | none => exact absurd e (hR x r).1
                | some o => rw [s4 _ _ e]; exact fun z => nomatch z
              · exact ⟨r2, fun z => by rw [z, hkd] at r1; cases r1⟩
            have bes : BesAt H4 (fun x => R x ∨ (H x = none ∧ H4 x ≠ none)) (.ref L) n es := ⟨L, ls, rfl, .inr ⟨s3.free nL, by rw [hL]; exact fun z => nomatch z⟩, hL, ll, fun i a hi => by
              obtain ⟨_, g0, ws, l, g2, g5, g3, g4⟩ := hls i a hi
              exact ⟨.inr ⟨g0, by rw [g2]; exact fun z => nomatch z⟩, ws, l, g2, fun t ht => .inr (g5 t ht), g3, g4⟩⟩
            have gr4 := gr.same s4
            have hkd4 := s4 _ _ hkd
            obtain ⟨lt, gr5⟩ := gr4.keep hkd4 hv mb.key (fun x r => .inl r) hR' ((mb.iff _ _ _ _ _).mpr bes)
            refine ⟨_, rfl, g, C, dx, _, _, rfl, s4 _ _ hg, G.cls, G.kept, rfl, kd, _, rfl, DPut.k (k := Sum.inr "chip beside") hkd4 lt, ?_⟩
            refine ⟨_, _, _, _, _, _, .ref L, _, rfl, (Same.but s4).trans (But.mut (X := (· = kd)) rfl), gr5, fun x r => .inl r, fun x r => r.imp id And.left, upd_same, ?_⟩
            rw [valV_put, if_pos rfl]
    · rintro σ H' ⟨y, z, u, t, r, kvs', v, R', rfl, bt, gr', hr1, hr2, hkd', hv⟩
      obtain ⟨⟨dx', eT', vs', hg', heT', hvs', _, _, _⟩, _, _, _, _, _, _, kvs2, hk2, hnd2, hM2⟩ := id gr'
      rw [hkd'] at hk2
      cases hk2
      refine ⟨_, rfl, g, C, dx', _, _, rfl, hg', G.cls, G.kept, rfl, kd, _, rfl, hv ▸ DGet.k (k := Sum.inr "chip beside") hkd', ?_⟩
      exact q _ _ _ bt gr' hr1 hr2 ((mb.iff _ _ _ _ _).mp (hM2 _ _ (val_mem hv)).2)
end
end G3

set_option Elab.async false
set_option linter.all false
set_option maxRecDepth 100000
set_option maxHeartbeats 2000000
namespace G3
open PySem PySem.Spec PyProof.Rows L2
/-! ## sums over lines -/
theorem nodup_map {α β : Type} (f : α → β) : ∀ {l : List α}, (l.map f).Nodup → l.Nodup
  | [], _ => List.nodup_nil
  | a :: l, h => by
    rw [List.map_cons] at h
    obtain ⟨h1, h2⟩ := List.nodup_cons.mp h
    exact List.nodup_cons.mpr ⟨fun z => h1 (List.mem_map.mpr ⟨a, z, rfl⟩), nodup_map f h2⟩
def msum (m : Nat → Nat) (n : Nat) (f : Nat → Int) : Int := ((List.range n).map fun u => (m u : Int) * f u).sum
theorem sum_perm : ∀ {l k : List Int}, l.Perm k → l.sum = k.sum := fun h => by
  induction h with
  | nil => rfl
  | cons x _ ih => rw [List.sum_cons, List.sum_cons, ih]
  | swap x y l => rw [List.sum_cons, List.sum_cons, List.sum_cons, List.sum_cons]; omega
  | trans _ _ h1 h2 => rw [h1, h2]
theorem line_sum {m : Nat → Nat} {l : List Pr} {n : Nat} (h : IsLine m l) (hm : ∀ u, 0 < m u → u < n) (f : Nat → Int) : (l.map fun e => (e.2 : Int) * f e.1).sum = msum m n f := by
  have nd1 : l.Nodup := nodup_map (fun x : Pr => x.1) (h.1.imp fun h => Nat.ne_of_lt h)
  have nd2 : (((List.range n).filter fun u => decide (0 < m u)).map fun u => (u, m u)).Nodup := nodup_map (fun x : Pr => x.1) (by
    rw [List.map_map]
    have : ((fun x : Pr => x.1) ∘ fun u => (u, m u)) = id := rfl
    rw [this, List.map_id]
    exact List.nodup_range.filter _)
  have hp : l.Perm (((List.range n).filter fun u => decide (0 < m u)).map fun u => (u, m u)) := (List.perm_ext_iff_of_nodup nd1 nd2).mpr fun e => by
    obtain ⟨u, v⟩ := e
    rw [h.2 u v, List.mem_map]
    constructor
    · rintro ⟨rfl, h2⟩
      exact ⟨u, List.mem_filter.mpr ⟨List.mem_range.mpr (hm u h2), decide_eq_true h2⟩, rfl⟩
    · rintro ⟨x, hx, e⟩
      cases e
      exact ⟨rfl, of_decide_eq_true (List.mem_filter.mp hx).2⟩
  rw [sum_perm (hp.map fun e => (e.2 : Int) * f e.1), List.map_map]
  unfold msum
  generalize List.range n = r
  induction r with
  | nil => rfl
  | cons a r ih =>
    rw [List.map_cons, List.sum_cons, ← ih]
    by_cases c : 0 < m a
    · rw [List.filter_cons_of_pos (p := fun u => decide (0 < m u)) (decide_eq_true c), List.map_cons, List.sum_cons]; rfl
    · rw [List.filter_cons_of_neg (p := fun u => decide (0 < m u)) (by simpa using c)]
      have : m a = 0 := by omega
      rw [this]
      simp
theorem line_le {m : Nat → Nat} {l : List Pr} {n : Nat} (h : IsLine m l) (hm : ∀ u, 0 < m u → u < n) : l.length ≤ n := by
  have nd : (l.map (·.1)).Nodup := h.1.imp fun h => Nat.ne_of_lt h
  have : DR m l := ⟨nd, h.2⟩
  exact this.len hm
theorem mult_le {es : List Pr} {i u : Nat} : mult es i u ≤ 2 * es.length := by
  unfold mult
  have h1 := List.count_le_length (a := (i, u)) (l := es)
  have h2 := List.count_le_length (a := (u, i)) (l := es)
  omega
theorem Gr.edg {m : Memo} {H : Hp} {C g kd : Addr} {R : Addr → Prop} {n : Nat} {es : List Pr} (h : Gr m H C g kd R n es) : ∀ e ∈ es, e.1 < n ∧ e.2 < n := fun e he => by
  have := h.2.1.1 e he
  omega
section
variable {P : Program} {w : World} {K : PySem.W.Frag} {mg : Str → Option Value} {base : Heap} {C : Addr}
abbrev n_sent_by : List Str := ["graph", "script", "found", "place", "line", "other", "many"]
abbrev p_sent_by : List Str := ["graph", "script"]
theorem sc_sent_by : FnScope n_sent_by p_sent_by (defScope s_sent_by) := ⟨rfl, rfl, rfl, by decide +kernel, rfl, by decide +kernel, by decide +kernel⟩
abbrev n_led : List Str := ["graph", "chips", "script", "many", "less"]
abbrev p_led : List Str := ["graph", "chips", "script"]
theorem sc_led : FnScope n_led p_led (defScope s_led) := ⟨rfl, rfl, rfl, by decide +kernel, rfl, by decide +kernel, by decide +kernel⟩
def valOf (n : Nat) (es : List Pr) (i : Nat) : Int := msum (mult es i) n fun _ => 1
def spValences (m : Memo) (C : Addr) : Sp := fun vs H Q _ => ∃ (g kd : Addr) (R : Addr → Prop) (n : Nat) (es : List Pr), vs = [.ref g] ∧ Gr m H C g kd R n es ∧
  ∀ (H' : Hp) (R' : Addr → Prop) (L : Addr), But (· = kd) H H' → Gr m H' C g kd R' n es → (∀ x, R x → R' x) → (∀ x, R' x → R x ∨ H x = none) → H L = none → ¬ R' L → H' L = some (.lst (((List.range n).map (valOf n es)).map V.int)) → Q (.ref L) H'
theorem ok_valences {m : Memo} (D : DefAt K mg "valences" "valences" s_valences) (B : Bt mg) (h_beside : Has P w K mg base CX0 1 "beside" p_beside (spBeside m C)) : Has P w K mg base CX0 2 "valences" p_valences (spValences m C) := by
  refine has_of D sc_valences (fun _ _ _ _ _ _ us hl => match us, hl with | [_], _ => rfl) (fun vs H Q E h => ?_) (fun f cdv A outer s H vs Q E hr h => ?_)
  · obtain ⟨g, kd, R, n, es, rfl, _⟩ := h
    rfl
  · obtain ⟨g, kd, R, n, es, rfl, gr, q⟩ := h
    refine ⟨_, (pss_one (ps_ret (pe_lc (own := [("line", 1)]) (g := gName 1) (tt := tYes) rfl sc_valences.nd (piL (K := K) rfl (pe_h h_beside hr pass0 (pa_cons (pv 0) pa_nil))) (blkOk_by (N := n_valences) (sc := defScope s_valences) (by decide +kernel)) (fun _ _ _ _ _ => (pg_name (i := 1) sc_valences.nd rfl (.inl rfl))) (fun _ _ _ _ _ => pts_nil) (fun _ _ _ _ _ => (pe_callB (sumK (K := K) rfl rfl) rfl B.sum (by decide +kernel) (pa_cons (pe_lc (own := [("_", 2), ("many", 3)]) (g := _) (tt := tYes) rfl sc_valences.nd (piL (K := K) rfl (pv 1)) (blkOk_by (N := n_valences) (sc := _) (by rfl)) (fun _ _ _ _ _ => (pgT (K := K) (n := 2) rfl rfl (pgs_cons (pg_name (i := 2) sc_valences.nd rfl (.inl rfl)) (pgs_cons (pg_name (i := 3) sc_valences.nd rfl (.inl rfl)) pgs_nil)))) (fun _ _ _ _ _ => pts_nil) (fun _ _ _ _ _ => (pv 3))) pa_nil)))))), ?_⟩
    have edg := gr.edg
    have hn64 : n ≤ 64 := gr.2.2.2.1
    refine ⟨_, rfl, g, kd, R, n, es, rfl, gr, fun H1 R' v b1 gr1 hr1 hr2 bes => ?_⟩
    obtain ⟨LB, as, rfl, _, hLB, las, hl⟩ := bes
    refine ⟨LB, rfl, ⟨_, SqL.of hLB⟩, fun L nL => ?_⟩
    refine lc_list (K := K) (a := LB) (xs := as.map V.ref) (fun i H2 => Same H1 H2 ∧ H2 L = some (.lst (((List.range i).map (valOf n es)).map V.int))) ⟨same_upd nL, upd_same⟩ (fun i H2 _ p => SqL.of (p.1 _ _ hLB)) ?_ ?_
    · rintro i x H2 hx ⟨sm, hL⟩
      have hi : i < as.length := by have := (List.getElem?_eq_some_iff.mp hx).1; rwa [List.length_map] at this
      rw [rows_get hi] at hx
      obtain rfl := Option.some.inj hx
      obtain ⟨_, ws, l, k1, _, k2, k3⟩ := hl i _ (List.getElem?_eq_getElem hi)
      have lw := k2.len
      have ll := line_le k3 fun u hu => mult_pos edg hu
      refine ⟨rfl, yes_ ?_⟩
      refine ⟨_, rfl, as[i], rfl, ⟨_, SqL.of (sm _ _ k1)⟩, fun L2 nL2 => ?_⟩
      refine lc_list (K := K) (a := as[i]) (xs := ws) (fun j H3 => Same H2 H3 ∧ H3 L2 = some (.lst (((l.take j).map fun e => (e.2 : Int) * 1).map V.int))) ⟨same_upd nL2, upd_same⟩ (fun j H3 _ p => SqL.of (p.1 _ _ (sm _ _ k1))) ?_ ?_
      · rintro j x H3 hx ⟨sm3, hL3⟩
        have hj : j < l.length := by rw [← lw]; exact (List.getElem?_eq_some_iff.mp hx).1
        obtain ⟨t, e1, e2⟩ := k2.get hj
        rw [hx] at e1
        obtain rfl := Option.some.inj e1
        refine ⟨t, _, rfl, SqT.of (sm3 _ _ (sm _ _ e2)), rfl, _, _, rfl, _, _, rfl, rfl, rfl, yes_ ?_⟩
        refine ⟨_, rfl, _, hL3, size_lt (by rw [List.length_map, List.length_map, List.length_take]; omega), same_mut sm3 nL2, ?_⟩
        rw [upd_same, List.take_add_one, List.getElem?_eq_getElem hj, List.map_append, List.map_append]
        show some (HO.lst (_ ++ [nV l[j].2])) = some (HO.lst (_ ++ [V.int ((l[j].2 : Int) * 1)]))
        rw [Int.mul_one]
      · rintro H3 ⟨sm3, hL3⟩
        rw [lw, List.take_length] at hL3
        refine ⟨L2, _, rfl, SqL.of hL3, ?_⟩
        rw [line_sum k3 (fun u hu => mult_pos edg hu) fun _ => 1]
        refine ⟨_, sm3 _ _ hL, size_lt (by rw [List.length_map, List.length_map, List.length_range]; omega), same_mut (sm.trans sm3) nL, ?_⟩
        rw [upd_same, List.range_succ, List.map_append, List.map_append]; rfl
    · rintro H2 ⟨sm, hL⟩
      rw [List.length_map, las] at hL
      exact q _ _ _ (b1.trans (Same.but sm)) (gr1.same sm) hr1 hr2 (gr1.free b1 nL) (fun r => (gr1.2.2.2.2.2.2.1 L r).1 nL) hL
def sentOf (n : Nat) (es : List Pr) (s : Nat → Int) (i : Nat) : Int := msum (mult es i) n fun u => s i - s u
def spSent (m : Memo) (C : Addr) : Sp := fun vs H Q _ => ∃ (g kd q0 : Addr) (R : Addr → Prop) (n : Nat) (es : List Pr) (ns : List Int), vs = [.ref g, .ref q0] ∧ Gr m H C g kd R n es ∧ H q0 = some (.lst (ns.map V.int)) ∧ ns.length = n ∧
  ∀ (H' : Hp) (R' : Addr → Prop) (L : Addr), But (· = kd) H H' → Gr m H' C g kd R' n es → (∀ x, R x → R' x) → (∀ x, R' x → R x ∨ H x = none) → H L = none → ¬ R' L → H' L = some (.lst (((List.range n).map (sentOf n es fun i => ns.getD i 0)).map V.int)) → Q (.ref L) H'
theorem ok_sent_by {m : Memo} (D : DefAt K mg "sent_by" "sent_by" s_sent_by) (B : Bt mg) (h_beside : Has P w K mg base CX0 1 "beside" p_beside (spBeside m C)) : Has P w K mg base CX0 2 "sent_by" p_sent_by (spSent m C) := by
  refine has_of D sc_sent_by (fun _ _ _ _ _ _ us hl => match us, hl with | [_, _], _ => rfl) (fun vs H Q E h => ?_) (fun f cdv A outer s H vs Q E hr h => ?_)
  · obtain ⟨g, kd, q0, R, n, es, ns, rfl, _⟩ := h
    rfl
  · obtain ⟨g, kd, q0, R, n, es, ns, rfl, gr, hq, hns, q⟩ := h
    refine ⟨_, (pss_cons (ps_set (i := 2) sc_sent_by.nd rfl (.inl rfl) (pe_lst pa_nil))
  (pss_cons (ps_for PassesOwn.never rfl (pi_enum rfl B.enumerate (pa_cons (pe_h h_beside hr pass0 (pa_cons (pv 0) pa_nil)) pa_nil)) (pgT (K := K) (n := 2) rfl rfl (pgs_cons (pg_name (i := 3) sc_sent_by.nd rfl (.inr rfl)) (pgs_cons (pg_name (i := 4) sc_sent_by.nd rfl (.inl rfl)) pgs_nil))) (pss_one (ps_expr (pe_bm PySem.F.plainAttrs_list PySem.F.slot_list_append PySem.F.type_list_append mt_append (pv 2) (pa_cons (pe_callB (sumK (K := K) rfl rfl) rfl B.sum (by decide +kernel) (pa_cons (pe_lc (own := [("other", 5), ("many", 6)]) (g := _) (tt := tYes) rfl sc_sent_by.nd (piL (K := K) rfl (pv 4)) (blkOk_by (N := n_sent_by) (sc := defScope s_sent_by) (by decide +kernel)) (fun _ _ _ _ _ => (pgT (K := K) (n := 2) rfl rfl (pgs_cons (pg_name (i := 5) sc_sent_by.nd rfl (.inl rfl)) (pgs_cons (pg_name (i := 6) sc_sent_by.nd rfl (.inl rfl)) pgs_nil)))) (fun _ _ _ _ _ => pts_nil) (fun _ _ _ _ _ => (pe_op op_mul (pv 6) (pe_op op_sub (pe_ix (ixL (K := K) rfl) (pv 1) (pv 3) (fun _ _ => rfl)) (pe_ix (ixL (K := K) rfl) (pv 1) (pv 5) (fun _ _ => rfl)))))) pa_nil)) pa_nil)))))
  (pss_one (ps_ret (pv 2))))), ?_⟩
    have edg := gr.edg
    have hn64 : n ≤ 64 := gr.2.2.2.1
    have he4 := gr.2.2.2.2.1
    obtain ⟨_, _, _, _, _, _, hR, kvs, hkd, _⟩ := id gr
    refine ⟨by show 0 ≤ sizeLine; decide, fun F0 nF => ?_⟩
    have s1 : Same H (upd H F0 (.lst [])) := same_upd nF
    have hF : (upd H F0 (.lst [])) F0 = some (.lst []) := upd_same
    generalize upd H F0 (.lst []) = H1 at s1 hF
    have gr1 := gr.same s1
    refine ⟨_, rfl, g, kd, R, n, es, rfl, gr1, fun H2 R' v b2 gr2 hr1 hr2 bes => ?_⟩
    obtain ⟨LB, as, rfl, rLB, hLB, las, hl⟩ := bes
    have nRF : ¬ R' F0 := fun r => (hr2 _ r).elim (fun r => (hR _ r).1 nF) fun z => by rw [hF] at z; cases z
    have hF2 := b2.lst (s1 _ _ hkd) hF
    have nkF : F0 ≠ kd := ne_of hF (s1 _ _ hkd) dict_ne.1
    refine ⟨LB, _, rfl, SqL.of hLB, ?_⟩
    have hq2 := b2.lst (s1 _ _ hkd) (s1 _ _ hq)
    have notF : ∀ x o, H x = some o → ¬ x = F0 := fun x o e z => by rw [z, nF] at e; cases e
    have nqF := notF _ _ hq
    refine for_enL (K := K) (a := LB) (xs := as.map V.ref) (fun i σ H' => ∃ (y z : Option V), σ = [some (.ref g), some (.ref q0), some (.ref F0), y, z, none, none] ∧ But (· = F0) H2 H' ∧ H' F0 = some (.lst (((List.range i).map (sentOf n es fun i => ns.getD i 0)).map V.int))) ⟨_, _, rfl, But.refl, hF2⟩ ?_ ?_ ?_
    · rintro i σ H' hi ⟨y, z, rfl, bt, hF'⟩
      exact SqL.of (bt _ _ (fun z => nRF (z ▸ rLB)) hLB)
    · rintro i x T σ H' hx ⟨y, z, rfl, bt, hF'⟩ nT
      have hi : i < as.length := by have := (List.getElem?_eq_some_iff.mp hx).1; rwa [List.length_map] at this
      rw [rows_get hi] at hx
      obtain rfl := Option.some.inj hx
      obtain ⟨ra, ws, l, k1, rt, k2, k3⟩ := hl i _ (List.getElem?_eq_getElem hi)
      refine ⟨T, _, rfl, SqT.of upd_same, rfl, _, _, rfl, _, _, rfl, rfl, ?_⟩
      have sT : Same H' (upd H' T (.tup [.int (i : Nat), .ref as[i]])) := same_upd nT
      have b4 : But (· = F0) H2 (upd H' T (.tup [.int (i : Nat), .ref as[i]])) := bt.trans (Same.but sT)
      have hF4 := sT _ _ hF'
      generalize upd H' T (.tup [.int (i : Nat), .ref as[i]]) = H4 at b4 hF4
      have nra : ∀ x, R' x → ¬ x = F0 := fun x r z => nRF (z ▸ r)
      have ha4 := b4 _ _ (nra _ ra) k1
      have hws4 : Prs H4 ws l := k2.stay (fun x o r e => b4 _ _ (nra _ r) e) rt
      have hq4 := b4 _ _ nqF hq2
      have lw := hws4.len
      have ll := line_le k3 fun u hu => mult_pos edg hu
      refine ⟨_, rfl, .inl ⟨rfl, _, SqL.of hF4⟩, ?_⟩
      refine ⟨_, rfl, as[i], rfl, ⟨_, SqL.of ha4⟩, fun L2 nL2 => ?_⟩
      refine lc_list (K := K) (a := as[i]) (xs := ws) (fun j H3 => Same H4 H3 ∧ H3 L2 = some (.lst (((l.take j).map fun e => (e.2 : Int) * (ns.getD i 0 - ns.getD e.1 0)).map V.int))) ⟨same_upd nL2, upd_same⟩ (fun j H3 _ p => SqL.of (p.1 _ _ ha4)) ?_ ?_
      · rintro j x H3 hx ⟨sm3, hL3⟩
        have hj : j < l.length := by rw [← lw]; exact (List.getElem?_eq_some_iff.mp hx).1
        obtain ⟨t, e1, e2⟩ := hws4.get hj
        rw [hx] at e1
        obtain rfl := Option.some.inj e1
        have hm : l[j].2 = mult es i l[j].1 ∧ 0 < mult es i l[j].1 := (k3.2 l[j].1 l[j].2).mp (List.getElem_mem hj)
        have hu : l[j].1 < n := mult_pos edg hm.2
        have hml : l[j].2 ≤ 2 * 400 := by rw [hm.1]; exact Nat.le_trans mult_le (by omega)
        refine ⟨t, _, rfl, SqT.of (sm3 _ _ e2), rfl, _, _, rfl, _, _, rfl, rfl, rfl, yes_ ?_⟩
        have gi : ∀ i : Nat, i < n → (ns.map V.int)[i]? = some (.int (ns.getD i 0)) := fun i hi => by
          have : i < ns.length := by omega
          rw [getMap this, List.getD_eq_getElem?_getD, List.getElem?_eq_getElem this]; rfl
        refine ⟨_, rfl, _, rfl, _, rfl, _, _, i, _, rfl, rfl, SqL.of (sm3 _ _ hq4), atI_nat (gi i (by omega)), ?_⟩
        refine ⟨_, rfl, _, rfl, _, _, l[j].1, _, rfl, rfl, SqL.of (sm3 _ _ hq4), atI_nat (gi _ hu), ?_⟩
        refine ⟨_, _, rfl, rfl, _, _, rfl, rfl, .inl ⟨by omega, by omega⟩, _, hL3, size_lt (by rw [List.length_map, List.length_map, List.length_take]; omega), same_mut sm3 nL2, ?_⟩
        rw [upd_same, List.take_add_one, List.getElem?_eq_getElem hj, List.map_append, List.map_append]; rfl
      · rintro H3 ⟨sm3, hL3⟩
        rw [lw, List.take_length] at hL3
        refine ⟨L2, _, rfl, SqL.of hL3, ?_⟩
        rw [line_sum k3 (fun u hu => mult_pos edg hu) fun u => ns.getD i 0 - ns.getD u 0]
        refine ⟨F0, _, _, rfl, rfl, sm3 _ _ hF4, size_lt (by rw [List.length_map, List.length_map, List.length_range]; omega), ?_⟩
        refine ⟨_, _, rfl, (b4.trans (Same.but sm3)).trans (But.mut (X := (· = F0)) rfl), ?_⟩
        rw [upd_same, List.range_succ, List.map_append, List.map_append]; rfl
    · rintro σ H' ⟨y, z, rfl, bt, hF'⟩
      rw [List.length_map, las] at hF'
      refine ⟨_, rfl, q _ R' _ ?_ (gr2.but bt fun x hx => by subst hx; exact ⟨nRF, nkF⟩) hr1 (fun x r => (hr2 x r).imp id s1.free) nF nRF hF'⟩
      intro b o nb e
      exact bt _ _ (notF _ _ e) (b2 _ _ nb (s1 _ _ e))
def ledOf (n : Nat) (es : List Pr) (cs ns : List Int) : List Int := (List.range n).map fun i => cs.getD i 0 - sentOf n es (fun i => ns.getD i 0) i
def spLed (m : Memo) (C : Addr) : Sp := fun vs H Q _ => ∃ (g kd c0 q0 : Addr) (R : Addr → Prop) (n : Nat) (es : List Pr) (cs ns : List Int), vs = [.ref g, .ref c0, .ref q0] ∧ Gr m H C g kd R n es ∧ H c0 = some (.lst (cs.map V.int)) ∧ H q0 = some (.lst (ns.map V.int)) ∧ cs.length = n ∧ ns.length = n ∧
  ∀ (H' : Hp) (R' : Addr → Prop) (L : Addr), But (· = kd) H H' → Gr m H' C g kd R' n es → (∀ x, R x → R' x) → (∀ x, R' x → R x ∨ H x = none) → H L = none → ¬ R' L → H' L = some (.lst ((ledOf n es cs ns).map V.int)) → Q (.ref L) H'
theorem ok_led {m : Memo} (D : DefAt K mg "led" "led" s_led) (B : Bt mg) (h_sent_by : Has P w K mg base CX0 2 "sent_by" p_sent_by (spSent m C)) : Has P w K mg base CX0 3 "led" p_led (spLed m C) := by
  refine has_of D sc_led (fun _ _ _ _ _ _ us hl => match us, hl with | [_, _, _], _ => rfl) (fun vs H Q E h => ?_) (fun f cdv A outer s H vs Q E hr h => ?_)
  · obtain ⟨g, kd, c0, q0, R, n, es, cs, ns, rfl, _⟩ := h
    rfl
  · obtain ⟨g, kd, c0, q0, R, n, es, cs, ns, rfl, gr, hc, hq, hcs, hns, q⟩ := h
    refine ⟨_, (pss_one (ps_ret (pe_lc (own := [("many", 3), ("less", 4)]) (g := _) (tt := tYes) rfl sc_led.nd (pi_zip rfl B.zip (pa_cons (pv 1) (pa_cons (pe_h h_sent_by hr pass0 (pa_cons (pv 0) (pa_cons (pv 2) pa_nil))) pa_nil))) (blkOk_by (N := n_led) (sc := defScope s_led) (by decide +kernel)) (fun _ _ _ _ _ => (pgT (K := K) (n := 2) rfl rfl (pgs_cons (pg_name (i := 3) sc_led.nd rfl (.inl rfl)) (pgs_cons (pg_name (i := 4) sc_led.nd rfl (.inl rfl)) pgs_nil)))) (fun _ _ _ _ _ => pts_nil) (fun _ _ _ _ _ => (pe_op op_sub (pv 3) (pv 4)))))), ?_⟩
    have hn64 : n ≤ 64 := gr.2.2.2.1
    obtain ⟨_, _, _, _, _, _, hR, kvs, hkd, _⟩ := id gr
    refine ⟨_, rfl, _, rfl, _, rfl, g, kd, q0, R, n, es, ns, rfl, gr, hq, hns, fun H1 R' S b1 gr1 hr1 hr2 nS nRS hS => ?_⟩
    have hc1 := b1.lst hkd hc
    refine ⟨c0, S, _, _, rfl, SqL.of hc1, SqL.of hS, fun L nL => ?_⟩
    refine lc_it (walk_zip (K := K) (a := c0) (b := S) (xs := cs.map V.int) (ys := ((List.range n).map (sentOf n es fun i => ns.getD i 0)).map V.int) (n := n) (by simp [hcs])) (fun i H2 => Same H1 H2 ∧ H2 L = some (.lst (((ledOf n es cs ns).take i).map V.int))) ⟨same_upd nL, upd_same⟩ (fun i H2 _ p => ⟨SqL.of (p.1 _ _ hc1), SqL.of (p.1 _ _ hS)⟩) ?_ ?_
    · rintro i v H2 H3 hi ⟨sm, hL⟩ ⟨T, x, y, rfl, nT, rfl, hx, hy⟩
      have hx : (cs.map V.int)[i]? = some x := hx
      have hy : (((List.range n).map (sentOf n es fun i => ns.getD i 0)).map V.int)[i]? = some y := hy
      have hci : i < cs.length := by omega
      rw [getMap hci] at hx
      rw [List.getElem?_map, List.getElem?_map, List.getElem?_range hi] at hy
      obtain rfl := Option.some.inj hx
      obtain rfl := Option.some.inj hy
      have sT : Same H2 (upd H2 T (.tup [.int cs[i], .int (sentOf n es (fun i => ns.getD i 0) i)])) := same_upd nT
      refine ⟨T, _, rfl, SqT.of upd_same, rfl, _, _, rfl, _, _, rfl, rfl, rfl, yes_ ?_⟩
      refine ⟨_, rfl, _, rfl, _, _, rfl, rfl, _, sT _ _ hL, size_lt (by rw [List.length_map, List.length_take]; omega), same_mut (sm.trans sT) nL, ?_⟩
      have e : (ledOf n es cs ns)[i]? = some (cs[i] - sentOf n es (fun i => ns.getD i 0) i) := by
        unfold ledOf
        rw [List.getElem?_map, List.getElem?_range hi]
        show some (cs.getD i 0 - _) = _
        rw [List.getD_eq_getElem?_getD, List.getElem?_eq_getElem hci]; rfl
      rw [upd_same, List.take_add_one, e, List.map_append]; rfl
    · rintro H2 ⟨sm, hL⟩
      have e : (ledOf n es cs ns).take n = ledOf n es cs ns := List.take_of_length_le (by unfold ledOf; simp)
      rw [e] at hL
      exact q _ _ _ (b1.trans (Same.but sm)) (gr1.same sm) hr1 hr2 (gr1.free b1 nL) (fun r => (gr1.2.2.2.2.2.2.1 L r).1 nL) hL
end
end G3

set_option Elab.async false
set_option linter.all false
set_option maxRecDepth 100000
set_option maxHeartbeats 2000000
namespace G3
open PySem PySem.Spec PyProof.Rows L2
/-! ## a row of numbers is told, or refused -/
def isN : PyData → Bool
  | .int _ => true
  | _ => false
/-- what a row is good for: n whole numbers, or the first wrong place, or nothing -/
inductive Rw (K : PySem.W.Frag) (H : Hp) (v : V) (n : Nat) : V → List Int → Prop
  | good {a : Addr} {ns : List Int} (e : v = .ref a) (h : SqL K H a (ns.map V.int) ∨ SqT K H a (ns.map V.int)) (hl : ns.length = n) : Rw K H v n (.bl true) ns
  | kind {d : PyData} (h : TyX K H v (.type (tyN d))) (hd : isSeqD d = false) : Rw K H v n .non []
  | long {a : Addr} {xs : List V} (e : v = .ref a) (h : SqL K H a xs ∨ SqT K H a xs) (hl : xs.length ≠ n) : Rw K H v n .non []
  | bad {a : Addr} {xs : List V} {ds : List PyData} {k : Nat} (e : v = .ref a) (h : SqL K H a xs ∨ SqT K H a xs) (hd : DpAll K H xs ds) (hl : ds.length = n) (hk : k < n) (h1 : ∀ j d, j < k → ds[j]? = some d → isN d = true) (h2 : ∀ d, ds[k]? = some d → isN d = false) : Rw K H v n (nV k) []
theorem Rw.same {K : PySem.W.Frag} {H H' : Hp} {v r : V} {n : Nat} {ns : List Int} (e : Same H H') (h : Rw K H v n r ns) : Rw K H' v n r ns := by
  cases h with
  | good e1 h hl => exact .good e1 (h.imp e.seq (Same.seqT e)) hl
  | kind h hd => exact .kind (tyx_same e h) hd
  | long e1 h hl => exact .long e1 (h.imp e.seq (Same.seqT e)) hl
  | bad e1 h hd hl hk h1 h2 => exact .bad e1 (h.imp e.seq (Same.seqT e)) (DpAll.same e hd) hl hk h1 h2
theorem rw_cases {K : PySem.W.Frag} {H : Hp} {v r : V} {n : Nat} {ns : List Int} (hv : Rw K H v n r ns) :
    (∃ (a : Addr) (xs : List V) (ds : List PyData), v = .ref a ∧ (SqL K H a xs ∨ SqT K H a xs) ∧ DpAll K H xs ds ∧ ds.length = n ∧
      (∀ k : Nat, k < n → (∀ (j : Nat) (d : PyData), j < k → ds[j]? = some d → isN d = true) → (∀ d : PyData, ds[k]? = some d → isN d = false) → r = nV k) ∧ ((∀ (j : Nat) (d : PyData), ds[j]? = some d → isN d = true) → r = .bl true ∧ xs = ns.map V.int)) ∨
    (r = .non ∧ ∃ d, TyX K H v (.type (tyN d)) ∧ isSeqD d = false) ∨ (r = .non ∧ ∃ (a : Addr) (xs : List V), v = .ref a ∧ (SqL K H a xs ∨ SqT K H a xs) ∧ xs.length ≠ n) := by
  cases hv with
  | @good a ns e h hl =>
    refine .inl ⟨a, _, ns.map PyData.int, e, h, dpAll_ints ns, by rw [List.length_map, hl], fun k hk h1 h2 => ?_, fun _ => ⟨rfl, rfl⟩⟩
    have : k < ns.length := by omega
    have := h2 (.int ns[k]) (by rw [List.getElem?_map, List.getElem?_eq_getElem this]; rfl)
    cases this
  | @bad a xs ds k e h hd hl hk h1 h2 =>
    refine .inl ⟨a, xs, ds, e, h, hd, hl, fun k' hk' h1' h2' => ?_, fun hall => ?_⟩
    · have hk2 : k < ds.length := by omega
      have hk3 : k' < ds.length := by omega
      by_cases c : k < k'
      · have a1 := h1' k _ c (List.getElem?_eq_getElem hk2)
        rw [h2 _ (List.getElem?_eq_getElem hk2)] at a1; cases a1
      · by_cases c2 : k' < k
        · have a1 := h1 k' _ c2 (List.getElem?_eq_getElem hk3)
          rw [h2' _ (List.getElem?_eq_getElem hk3)] at a1; cases a1
        · have : k = k' := by omega
          rw [this]
    · have hk2 : k < ds.length := by omega
      have a1 := hall k _ (List.getElem?_eq_getElem hk2)
      rw [h2 _ (List.getElem?_eq_getElem hk2)] at a1; cases a1
  | @kind d h hd => exact .inr (.inl ⟨rfl, d, h, hd⟩)
  | @long a xs e h hl => exact .inr (.inr ⟨rfl, a, xs, e, h, hl⟩)
theorem isI_N {K : PySem.W.Frag} {H : Hp} {x : V} {d : PyData} (h : Dp K H x d) : isI x = isN d := by cases h <;> rfl
theorem row_ty {K : PySem.W.Frag} {H : Hp} {a : Addr} {xs : List V} (h : SqL K H a xs ∨ SqT K H a xs) : ∃ d, TyX K H (.ref a) (.type (tyN d)) ∧ isSeqD d = true := by
  rcases h with h | h
  · exact ⟨.list [], ty_l h, rfl⟩
  · exact ⟨.tuple [], ty_t h, rfl⟩
theorem row_len {K : PySem.W.Frag} {H : Hp} {a : Addr} {xs : List V} (h : SqL K H a xs ∨ SqT K H a xs) : LenV K (.ref a) H xs.length := h.imp (fun h => ⟨_, h, rfl⟩) fun h => ⟨_, h, rfl⟩
section
variable {P : Program} {w : World} {K : PySem.W.Frag} {mg : Str → Option Value} {base : Heap} {C : Addr}
abbrev n_told_sum : List Str := ["graph", "chips", "number", "many"]
abbrev p_told_sum : List Str := ["graph", "chips"]
theorem sc_told_sum : FnScope n_told_sum p_told_sum (defScope s_told_sum) := ⟨rfl, rfl, rfl, by decide +kernel, rfl, by decide +kernel, by decide +kernel⟩
abbrev n_told_script : List Str := ["graph", "script", "number", "many"]
abbrev p_told_script : List Str := ["graph", "script"]
theorem sc_told_script : FnScope n_told_script p_told_script (defScope s_told_script) := ⟨rfl, rfl, rfl, by decide +kernel, rfl, by decide +kernel, by decide +kernel⟩
abbrev n_degree : List Str := ["graph", "chips"]
abbrev p_degree : List Str := ["graph", "chips"]
theorem sc_degree : FnScope n_degree p_degree (defScope s_degree) := ⟨rfl, rfl, rfl, by decide +kernel, rfl, by decide +kernel, by decide +kernel⟩
abbrev n_canonical : List Str := ["graph", "many"]
abbrev p_canonical : List Str := ["graph"]
theorem sc_canonical : FnScope n_canonical p_canonical (defScope s_canonical) := ⟨rfl, rfl, rfl, by decide +kernel, rfl, by decide +kernel, by decide +kernel⟩
abbrev n_fired : List Str := ["graph", "chips", "script", "told"]
abbrev p_fired : List Str := ["graph", "chips", "script"]
theorem sc_fired : FnScope n_fired p_fired (defScope s_fired) := ⟨rfl, rfl, rfl, by decide +kernel, rfl, by decide +kernel, by decide +kernel⟩
/-- told, or an error of the class CB with its number -/
def spTold (m : Memo) (K : PySem.W.Frag) (C CB : Addr) : Sp := fun vs H Q E => ∃ (g kd : Addr) (R : Addr → Prop) (n : Nat) (es : List Pr) (v r : V) (ns : List Int), vs = [.ref g, v] ∧ Gr m H C g kd R n es ∧ Rw K H v n r ns ∧
  ∀ (H' : Hp) (l : Addr), Same H H' → H l = none → (r = .bl true → H' l = some (.lst (ns.map V.int)) → Q (.ref l) H') ∧ (r ≠ .bl true → H' l = some (.xd [("number", r)]) → E (.ref CB) (some l) H')
theorem ok_told_sum {m : Memo} {CB fI : Addr} (D : DefAt K mg "told_sum" "told_sum" s_told_sum) (B : Bt mg) (G : GraphC K C) (T : SupX.SupTxt P K mg "BadSum" CB fI) (h_is_whole_sums : Has P w K mg base CX0 1 "is_whole_sums" p_is_whole (spIsI K)) :
    Has P w K mg base (L2.CX P w) 2 "told_sum" p_told_sum (spTold m K C CB) := by
  refine has_ofX D sc_told_sum (fun _ _ _ _ _ _ us hl => match us, hl with | [_, _], _ => rfl) (fun vs H Q E h => ?_) (fun f cdv A outer s H vs Q E hr h => ?_)
  · obtain ⟨g, kd, R, n, es, v, r, ns, rfl, _⟩ := h
    rfl
  · obtain ⟨g, kd, R, n, es, v, r, ns, rfl, gr, hv, q⟩ := h
    have tk : Takes (cxOf (L2.CX P w) P w K mg base n_told_sum "told_sum" (defScope s_told_sum) f cdv A outer s H E) (fun cls d _ H => E cls d H) := takes_of rfl rfl rfl rfl
    refine ⟨_, (pss_cons (ps_if (PW.pt (pw_or (pt_not (pt_val (pe_callB (isiTK (K := K) rfl) rfl B.isinstance (by decide +kernel) (pa_cons (pv 1) (pa_cons (pe_tup (pa_cons (pe_bltn (v := .ty "tuple") (u := .type "tuple") rfl B.tuple (by decide +kernel) rfl) (pa_cons (pe_bltn (v := .ty "list") (u := .type "list") rfl B.list (by decide +kernel) rfl) pa_nil))) pa_nil))))) (pw_or1 (pt_cmpR op_ne (pe_callB (lenK (K := K) rfl) rfl B.len PySem.boot_len (pa_cons (pv 1) pa_nil)) (fldK (K := K) rfl (pv 0) rfl) (nomark _))))) (pss_one (ps_raiseSup rfl T hr tk (pa_cons pe_non pa_nil))) pss_nil)
  (pss_cons (ps_for PassesOwn.leaving rfl (pi_enumR (K := K) rfl rfl B.enumerate (pa_cons (pv 1) pa_nil)) (pgT (K := K) (n := 2) rfl rfl (pgs_cons (pg_name (i := 2) sc_told_sum.nd rfl (.inl rfl)) (pgs_cons (pg_name (i := 3) sc_told_sum.nd rfl (.inl rfl)) pgs_nil))) (pss_one (ps_if (pt_not (pt_val (pe_h h_is_whole_sums hr pass0 (pa_cons (pv 3) pa_nil)))) (pss_one (ps_raiseSup rfl T hr tk (pa_cons (pv 2) pa_nil))) pss_nil)))
  (pss_one (ps_ret (pe_callTy (listK (K := K) rfl) rfl B.list (by decide +kernel) (pa_cons (pv 1) pa_nil)))))), ?_⟩
    obtain ⟨⟨dx, eT, vs, hg, heT, hvs, _, _, _⟩, good, hn1, hn64, _⟩ := id gr
    refine ⟨_, rfl, by show 2 ≤ sizeLine; decide, fun tp ntp => ?_⟩
    have s1 : Same H (upd H tp (.tup [.ty "tuple", .ty "list"])) := same_upd ntp
    have htp : (upd H tp (.tup [.ty "tuple", .ty "list"])) tp = some (.tup [.ty "tuple", .ty "list"]) := upd_same
    generalize upd H tp (.tup [.ty "tuple", .ty "list"]) = H1 at s1 htp
    have hg1 := s1 _ _ hg
    have hv1 := hv.same s1
    have xx : ∀ (k : V) (H2 : Hp), k = r → k ≠ .bl true → Same H H2 → ∀ d, H2 d = none → E (.ref CB) (some d) (upd H2 d (.xd [("number", k)])) := fun k H2 e ne sm d nd => by
      subst e
      exact (q _ d (sm.trans (same_upd nd)) (sm.free nd)).2 ne upd_same
    rcases rw_cases hv with ⟨a, xs, ds, e, hrow, hd, hl, hbad, hgood⟩ | ⟨rfl, d, h, hd⟩ | ⟨rfl, a, xs, e, h, hl⟩
    · subst e
      have hrow1 := hrow.imp s1.seq (Same.seqT s1)
      obtain ⟨d0, ht, hs⟩ := row_ty hrow1
      have lx := DpAll.len hd
      refine ⟨_, tp, _, _, _, isSeqD d0, rfl, htp, .cons (.ty _) (.cons (.ty _) .nil), ht, kt_tl d0, _, rfl, ?_⟩
      rw [hs]
      refine iteF ⟨_, rfl, _, _, rfl, row_len hrow1, _, rfl, g, C, dx, _, _, rfl, hg1, G.cls, G.n, rfl, rfl, _, rfl, ifN (fun e => absurd (congrArg V.int (by omega)) e) fun _ => ?_⟩
      refine ⟨_, rfl, a, rfl, ?_⟩
      refine for_enR (K := K) (a := a) (xs := xs) (H0 := H) hrow (fun i σ H' => ∃ (y z : Option V), σ = [some (.ref g), some (.ref a), y, z] ∧ Same H H' ∧ ∀ j d, j < i → ds[j]? = some d → isN d = true) ?_ ?_ ?_ ?_
      · exact ⟨_, _, rfl, s1, fun j d h => absurd h (Nat.not_lt_zero _)⟩
      · rintro i σ' H' ⟨_, _, _, sm, _⟩ o ho
        exact sm _ _ ho
      · rintro i x T σ' H' hx ⟨y, z, rfl, sm, hj⟩ nT
        have hi : i < ds.length := by rw [← lx]; exact (List.getElem?_eq_some_iff.mp hx).1
        obtain ⟨x', e1, dd⟩ := DpAll.get hd hi
        rw [hx] at e1
        obtain rfl := Option.some.inj e1
        have sT : Same H' (upd H' T (.tup [.int (i : Nat), x])) := same_upd nT
        refine ⟨T, _, rfl, SqT.of upd_same, rfl, _, _, rfl, _, _, rfl, rfl, ?_⟩
        refine ⟨_, rfl, x, _, rfl, Dp.same (sm.trans sT) dd, _, rfl, ?_⟩
        rw [isI_N dd]
        cases hn : isN ds[i] with
        | true =>
          refine iteF ⟨_, _, rfl, sm.trans sT, fun j d hjl hd' => ?_⟩
          by_cases c : j < i
          · exact hj j d c hd'
          · have : j = i := by omega
            subst this
            rw [List.getElem?_eq_getElem hi] at hd'
            rw [← Option.some.inj hd']; exact hn
        | false =>
          refine iteT ?_
          have hk := hbad i (by omega) hj fun d hd' => by
            rw [List.getElem?_eq_getElem hi] at hd'
            rw [← Option.some.inj hd']; exact hn
          exact ⟨_, rfl, _, rfl, xx _ _ hk.symm (fun z => by cases z) (sm.trans sT)⟩
      · rintro σ' H' ⟨y, z, rfl, sm, hj⟩
        obtain ⟨hr, hx⟩ := hgood fun j d hd' => hj j d (by rw [lx]; exact (List.getElem?_eq_some_iff.mp hd').1) hd'
        refine ⟨_, rfl, a, xs, rfl, hrow.imp sm.seq (Same.seqT sm), fun l nl => ?_⟩
        exact (q _ l (sm.trans (same_upd nl)) (sm.free nl)).1 hr (by rw [upd_same, hx])
    · refine ⟨_, tp, _, _, _, isSeqD d, rfl, htp, .cons (.ty _) (.cons (.ty _) .nil), tyx_same s1 h, kt_tl d, _, rfl, ?_⟩
      rw [hd]
      exact iteT ⟨_, rfl, xx _ _ rfl (fun z => by cases z) s1⟩
    · subst e
      have hrow1 := h.imp s1.seq (Same.seqT s1)
      obtain ⟨d0, ht, hs⟩ := row_ty hrow1
      refine ⟨_, tp, _, _, _, isSeqD d0, rfl, htp, .cons (.ty _) (.cons (.ty _) .nil), ht, kt_tl d0, _, rfl, ?_⟩
      rw [hs]
      refine iteF ⟨_, rfl, _, _, rfl, row_len hrow1, _, rfl, g, C, dx, _, _, rfl, hg1, G.cls, G.n, rfl, rfl, _, rfl, ifN (fun _ => ?_) fun e => absurd e (fun z => hl (by injection z with z; omega))⟩
      exact ⟨_, rfl, xx _ _ rfl (fun z => by cases z) s1⟩
theorem ok_told_script {m : Memo} {CB fI : Addr} (D : DefAt K mg "told_script" "told_script" s_told_script) (B : Bt mg) (G : GraphC K C) (T : SupX.SupTxt P K mg "BadScript" CB fI) (h_is_whole_sums : Has P w K mg base CX0 1 "is_whole_sums" p_is_whole (spIsI K)) :
    Has P w K mg base (L2.CX P w) 2 "told_script" p_told_script (spTold m K C CB) := by
  refine has_ofX D sc_told_script (fun _ _ _ _ _ _ us hl => match us, hl with | [_, _], _ => rfl) (fun vs H Q E h => ?_) (fun f cdv A outer s H vs Q E hr h => ?_)
  · obtain ⟨g, kd, R, n, es, v, r, ns, rfl, _⟩ := h
    rfl
  · obtain ⟨g, kd, R, n, es, v, r, ns, rfl, gr, hv, q⟩ := h
    have tk : Takes (cxOf (L2.CX P w) P w K mg base n_told_script "told_script" (defScope s_told_script) f cdv A outer s H E) (fun cls d _ H => E cls d H) := takes_of rfl rfl rfl rfl
    refine ⟨_, (pss_cons (ps_if (PW.pt (pw_or (pt_not (pt_val (pe_callB (isiTK (K := K) rfl) rfl B.isinstance (by decide +kernel) (pa_cons (pv 1) (pa_cons (pe_tup (pa_cons (pe_bltn (v := .ty "tuple") (u := .type "tuple") rfl B.tuple (by decide +kernel) rfl) (pa_cons (pe_bltn (v := .ty "list") (u := .type "list") rfl B.list (by decide +kernel) rfl) pa_nil))) pa_nil))))) (pw_or1 (pt_cmpR op_ne (pe_callB (lenK (K := K) rfl) rfl B.len PySem.boot_len (pa_cons (pv 1) pa_nil)) (fldK (K := K) rfl (pv 0) rfl) (nomark _))))) (pss_one (ps_raiseSup rfl T hr tk (pa_cons pe_non pa_nil))) pss_nil)
  (pss_cons (ps_for PassesOwn.leaving rfl (pi_enumR (K := K) rfl rfl B.enumerate (pa_cons (pv 1) pa_nil)) (pgT (K := K) (n := 2) rfl rfl (pgs_cons (pg_name (i := 2) sc_told_script.nd rfl (.inl rfl)) (pgs_cons (pg_name (i := 3) sc_told_script.nd rfl (.inl rfl)) pgs_nil))) (pss_one (ps_if (pt_not (pt_val (pe_h h_is_whole_sums hr pass0 (pa_cons (pv 3) pa_nil)))) (pss_one (ps_raiseSup rfl T hr tk (pa_cons (pv 2) pa_nil))) pss_nil)))
  (pss_one (ps_ret (pe_callTy (listK (K := K) rfl) rfl B.list (by decide +kernel) (pa_cons (pv 1) pa_nil)))))), ?_⟩
    obtain ⟨⟨dx, eT, vs, hg, heT, hvs, _, _, _⟩, good, hn1, hn64, _⟩ := id gr
    refine ⟨_, rfl, by show 2 ≤ sizeLine; decide, fun tp ntp => ?_⟩
    have s1 : Same H (upd H tp (.tup [.ty "tuple", .ty "list"])) := same_upd ntp
    have htp : (upd H tp (.tup [.ty "tuple", .ty "list"])) tp = some (.tup [.ty "tuple", .ty "list"]) := upd_same
    generalize upd H tp (.tup [.ty "tuple", .ty "list"]) = H1 at s1 htp
    have hg1 := s1 _ _ hg
    have hv1 := hv.same s1
    have xx : ∀ (k : V) (H2 : Hp), k = r → k ≠ .bl true → Same H H2 → ∀ d, H2 d = none → E (.ref CB) (some d) (upd H2 d (.xd [("number", k)])) := fun k H2 e ne sm d nd => by
      subst e
      exact (q _ d (sm.trans (same_upd nd)) (sm.free nd)).2 ne upd_same
    rcases rw_cases hv with ⟨a, xs, ds, e, hrow, hd, hl, hbad, hgood⟩ | ⟨rfl, d, h, hd⟩ | ⟨rfl, a, xs, e, h, hl⟩
    · subst e
      have hrow1 := hrow.imp s1.seq (Same.seqT s1)
      obtain ⟨d0, ht, hs⟩ := row_ty hrow1
      have lx := DpAll.len hd
      refine ⟨_, tp, _, _, _, isSeqD d0, rfl, htp, .cons (.ty _) (.cons (.ty _) .nil), ht, kt_tl d0, _, rfl, ?_⟩
      rw [hs]
      refine iteF ⟨_, rfl, _, _, rfl, row_len hrow1, _, rfl, g, C, dx, _, _, rfl, hg1, G.cls, G.n, rfl, rfl, _, rfl, ifN (fun e => absurd (congrArg V.int (by omega)) e) fun _ => ?_⟩
      refine ⟨_, rfl, a, rfl, ?_⟩
      refine for_enR (K := K) (a := a) (xs := xs) (H0 := H) hrow (fun i σ H' => ∃ (y z : Option V), σ = [some (.ref g), some (.ref a), y, z] ∧ Same H H' ∧ ∀ j d, j < i → ds[j]? = some d → isN d = true) ?_ ?_ ?_ ?_
      · exact ⟨_, _, rfl, s1, fun j d h => absurd h (Nat.not_lt_zero _)⟩
      · rintro i σ' H' ⟨_, _, _, sm, _⟩ o ho
        exact sm _ _ ho
      · rintro i x T σ' H' hx ⟨y, z, rfl, sm, hj⟩ nT
        have hi : i < ds.length := by rw [← lx]; exact (List.getElem?_eq_some_iff.mp hx).1
        obtain ⟨x', e1, dd⟩ := DpAll.get hd hi
        rw [hx] at e1
        obtain rfl := Option.some.inj e1
        have sT : Same H' (upd H' T (.tup [.int (i : Nat), x])) := same_upd nT
        refine ⟨T, _, rfl, SqT.of upd_same, rfl, _, _, rfl, _, _, rfl, rfl, ?_⟩
        refine ⟨_, rfl, x, _, rfl, Dp.same (sm.trans sT) dd, _, rfl, ?_⟩
        rw [isI_N dd]
        cases hn : isN ds[i] with
        | true =>
          refine iteF ⟨_, _, rfl, sm.trans sT, fun j d hjl hd' => ?_⟩
          by_cases c : j < i
          · exact hj j d c hd'
          · have : j = i := by omega
            subst this
            rw [List.getElem?_eq_getElem hi] at hd'
            rw [← Option.some.inj hd']; exact hn
        | false =>
          refine iteT ?_
          have hk := hbad i (by omega) hj fun d hd' => by
            rw [List.getElem?_eq_getElem hi] at hd'
            rw [← Option.some.inj hd']; exact hn
          exact ⟨_, rfl, _, rfl, xx _ _ hk.symm (fun z => by cases z) (sm.trans sT)⟩
      · rintro σ' H' ⟨y, z, rfl, sm, hj⟩
        obtain ⟨hr, hx⟩ := hgood fun j d hd' => hj j d (by rw [lx]; exact (List.getElem?_eq_some_iff.mp hd').1) hd'
        refine ⟨_, rfl, a, xs, rfl, hrow.imp sm.seq (Same.seqT sm), fun l nl => ?_⟩
        exact (q _ l (sm.trans (same_upd nl)) (sm.free nl)).1 hr (by rw [upd_same, hx])
    · refine ⟨_, tp, _, _, _, isSeqD d, rfl, htp, .cons (.ty _) (.cons (.ty _) .nil), tyx_same s1 h, kt_tl d, _, rfl, ?_⟩
      rw [hd]
      exact iteT ⟨_, rfl, xx _ _ rfl (fun z => by cases z) s1⟩
    · subst e
      have hrow1 := h.imp s1.seq (Same.seqT s1)
      obtain ⟨d0, ht, hs⟩ := row_ty hrow1
      refine ⟨_, tp, _, _, _, isSeqD d0, rfl, htp, .cons (.ty _) (.cons (.ty _) .nil), ht, kt_tl d0, _, rfl, ?_⟩
      rw [hs]
      refine iteF ⟨_, rfl, _, _, rfl, row_len hrow1, _, rfl, g, C, dx, _, _, rfl, hg1, G.cls, G.n, rfl, rfl, _, rfl, ifN (fun _ => ?_) fun e => absurd e (fun z => hl (by injection z with z; omega))⟩
      exact ⟨_, rfl, xx _ _ rfl (fun z => by cases z) s1⟩
end
end G3


set_option Elab.async false
set_option linter.all false
set_option maxRecDepth 100000
set_option maxHeartbeats 2000000
namespace G3
open PySem PySem.Spec PyProof.Rows L2
section
variable {P : Program} {w : World} {K : PySem.W.Frag} {mg : Str → Option Value} {base : Heap} {C : Addr}
def spDegree (m : Memo) (K : PySem.W.Frag) (C CB : Addr) : Sp := fun vs H Q E => ∃ (g kd : Addr) (R : Addr → Prop) (n : Nat) (es : List Pr) (v r : V) (ns : List Int), vs = [.ref g, v] ∧ Gr m H C g kd R n es ∧ Rw K H v n r ns ∧
  (∀ (H' : Hp), Same H H' → r = .bl true → Q (.int ns.sum) H') ∧ (∀ (H' : Hp) (l : Addr), Same H H' → H l = none → r ≠ .bl true → H' l = some (.xd [("number", r)]) → E (.ref CB) (some l) H')
theorem ok_degree {m : Memo} {CB : Addr} (D : DefAt K mg "degree" "degree" s_degree) (B : Bt mg) (h_told_sum : Has P w K mg base (L2.CX P w) 2 "told_sum" p_told_sum (spTold m K C CB)) :
    Has P w K mg base (L2.CX P w) 3 "degree" p_degree (spDegree m K C CB) := by
  refine has_ofX D sc_degree (fun _ _ _ _ _ _ us hl => match us, hl with | [_, _], _ => rfl) (fun vs H Q E h => ?_) (fun f cdv A outer s H vs Q E hr h => ?_)
  · obtain ⟨g, kd, R, n, es, v, r, ns, rfl, _⟩ := h
    rfl
  · obtain ⟨g, kd, R, n, es, v, r, ns, rfl, gr, hv, q1, q2⟩ := h
    have tk : Takes (cxOf (L2.CX P w) P w K mg base n_degree "degree" (defScope s_degree) f cdv A outer s H E) (fun cls d _ H => E cls d H) := takes_of rfl rfl rfl rfl
    refine ⟨_, (pss_one (ps_ret (pe_callB (sumK (K := K) rfl rfl) rfl B.sum (by decide +kernel) (pa_cons (pe_hS h_told_sum hr (fun σ => passAt tk σ) (pa_cons (pv 0) (pa_cons (pv 1) pa_nil))) pa_nil)))), ?_⟩
    refine ⟨_, rfl, _, rfl, g, kd, R, n, es, v, r, ns, rfl, gr, hv, fun H' l sm nl => ⟨fun e h => ?_, fun ne h => q2 H' l sm nl ne h⟩⟩
    exact ⟨l, ns, rfl, SqL.of h, q1 _ sm e⟩
def spCanonical (m : Memo) (C : Addr) : Sp := fun vs H Q _ => ∃ (g kd : Addr) (R : Addr → Prop) (n : Nat) (es : List Pr), vs = [.ref g] ∧ Gr m H C g kd R n es ∧
  ∀ (H' : Hp) (R' : Addr → Prop) (L : Addr), But (· = kd) H H' → Gr m H' C g kd R' n es → (∀ x, R x → R' x) → (∀ x, R' x → R x ∨ H x = none) → H L = none → ¬ R' L → H' L = some (.tup (((List.range n).map fun i => valOf n es i - 2).map V.int)) → Q (.ref L) H'
theorem ok_canonical {m : Memo} (D : DefAt K mg "canonical" "canonical" s_canonical) (B : Bt mg) (h_valences : Has P w K mg base CX0 2 "valences" p_valences (spValences m C)) : Has P w K mg base CX0 3 "canonical" p_canonical (spCanonical m C) := by
  refine has_of D sc_canonical (fun _ _ _ _ _ _ us hl => match us, hl with | [_], _ => rfl) (fun vs H Q E h => ?_) (fun f cdv A outer s H vs Q E hr h => ?_)
  · obtain ⟨g, kd, R, n, es, rfl, _⟩ := h
    rfl
  · obtain ⟨g, kd, R, n, es, rfl, gr, q⟩ := h
    refine ⟨_, (pss_one (ps_ret (pe_callTy (tupK (K := K) rfl) rfl B.tuple (by decide +kernel) (pa_cons (pe_lc (own := [("many", 1)]) (g := gName 1) (tt := tYes) rfl sc_canonical.nd (piL (K := K) rfl (pe_h h_valences hr pass0 (pa_cons (pv 0) pa_nil))) (blkOk_by (N := n_canonical) (sc := defScope s_canonical) (by decide +kernel)) (fun _ _ _ _ _ => (pg_name (i := 1) sc_canonical.nd rfl (.inl rfl))) (fun _ _ _ _ _ => pts_nil) (fun _ _ _ _ _ => (pe_op op_sub (pv 1) pe_int))) pa_nil)))), ?_⟩
    have hn64 : n ≤ 64 := gr.2.2.2.1
    refine ⟨_, rfl, g, kd, R, n, es, rfl, gr, fun H1 R' S b1 gr1 hr1 hr2 nS nRS hS => ?_⟩
    refine ⟨S, rfl, ⟨_, SqL.of hS⟩, fun L nL => ?_⟩
    refine lc_list (K := K) (a := S) (xs := ((List.range n).map (valOf n es)).map V.int) (fun i H2 => Same H1 H2 ∧ H2 L = some (.lst (((List.range i).map fun i => valOf n es i - 2).map V.int))) ⟨same_upd nL, upd_same⟩ (fun i H2 _ p => SqL.of (p.1 _ _ hS)) ?_ ?_
    · rintro i x H2 hx ⟨sm, hL⟩
      have hi : i < n := by have := (List.getElem?_eq_some_iff.mp hx).1; simpa using this
      rw [List.getElem?_map, List.getElem?_map, List.getElem?_range hi] at hx
      obtain rfl := Option.some.inj hx
      refine ⟨rfl, yes_ ?_⟩
      refine ⟨_, rfl, _, _, rfl, rfl, _, hL, size_lt (by rw [List.length_map, List.length_map, List.length_range]; omega), same_mut sm nL, ?_⟩
      rw [upd_same, List.range_succ, List.map_append, List.map_append]; rfl
    · rintro H2 ⟨sm, hL⟩
      rw [List.length_map, List.length_map, List.length_range] at hL
      refine ⟨L, _, rfl, .inl ⟨SqL.of hL, fun l nl => ?_⟩⟩
      have s2 := sm.trans (same_upd (o := .tup (((List.range n).map fun i => valOf n es i - 2).map V.int)) nl)
      refine q _ R' _ (b1.trans (Same.but s2)) (gr1.same s2) hr1 hr2 (gr1.free b1 (sm.free nl)) (fun r => (gr1.2.2.2.2.2.2.1 l r).1 (sm.free nl)) upd_same
def spFired (m : Memo) (K : PySem.W.Frag) (C CB CS : Addr) : Sp := fun vs H Q E => ∃ (g kd : Addr) (R : Addr → Prop) (n : Nat) (es : List Pr) (v r v2 r2 : V) (cs ns : List Int), vs = [.ref g, v, v2] ∧ Gr m H C g kd R n es ∧ Rw K H v n r cs ∧ (r = .bl true → Rw K H v2 n r2 ns) ∧
  (∀ (H' : Hp) (R' : Addr → Prop) (L : Addr), r = .bl true → r2 = .bl true → But (· = kd) H H' → Gr m H' C g kd R' n es → (∀ x, R x → R' x) → (∀ x, R' x → R x ∨ H x = none) → H L = none → ¬ R' L → H' L = some (.tup ((ledOf n es cs ns).map V.int)) → Q (.ref L) H') ∧
  (∀ (H' : Hp) (l : Addr), Same H H' → H l = none → r ≠ .bl true → H' l = some (.xd [("number", r)]) → E (.ref CB) (some l) H') ∧
  (∀ (H' : Hp) (l : Addr), Same H H' → H l = none → r = .bl true → r2 ≠ .bl true → H' l = some (.xd [("number", r2)]) → E (.ref CS) (some l) H')
theorem Rw.len {K : PySem.W.Frag} {H : Hp} {v r : V} {n : Nat} {ns : List Int} (h : Rw K H v n r ns) (e : r = .bl true) : ns.length = n := by
  cases h with
  | good _ _ hl => exact hl
  | kind _ _ => cases e
  | long _ _ _ => cases e
  | bad _ _ _ _ _ _ _ => cases e
theorem ok_fired {m : Memo} {CB CS : Addr} (D : DefAt K mg "fired" "fired" s_fired) (B : Bt mg) (h_told_sum : Has P w K mg base (L2.CX P w) 2 "told_sum" p_told_sum (spTold m K C CB)) (h_told_script : Has P w K mg base (L2.CX P w) 2 "told_script" p_told_script (spTold m K C CS))
    (h_led : Has P w K mg base CX0 3 "led" p_led (spLed m C)) : Has P w K mg base (L2.CX P w) 4 "fired" p_fired (spFired m K C CB CS) := by
  refine has_ofX D sc_fired (fun _ _ _ _ _ _ us hl => match us, hl with | [_, _, _], _ => rfl) (fun vs H Q E h => ?_) (fun f cdv A outer s H vs Q E hr h => ?_)
  · obtain ⟨g, kd, R, n, es, v, r, v2, r2, cs, ns, rfl, _⟩ := h
    rfl
  · obtain ⟨g, kd, R, n, es, v, r, v2, r2, cs, ns, rfl, gr, hv, hv2, q1, q2, q3⟩ := h
    have tk : Takes (cxOf (L2.CX P w) P w K mg base n_fired "fired" (defScope s_fired) f cdv A outer s H E) (fun cls d _ H => E cls d H) := takes_of rfl rfl rfl rfl
    refine ⟨_, (pss_cons (ps_set (i := 3) sc_fired.nd rfl (.inl rfl) (pe_hS h_told_sum hr (fun σ => passAt tk σ) (pa_cons (pv 0) (pa_cons (pv 1) pa_nil))))
  (pss_one (ps_ret (pe_callTy (tupK (K := K) rfl) rfl B.tuple (by decide +kernel) (pa_cons (pe_h h_led hr pass0 (pa_cons (pv 0) (pa_cons (pv 3) (pa_cons (pe_hS h_told_script hr (fun σ => passAt tk σ) (pa_cons (pv 0) (pa_cons (pv 2) pa_nil))) pa_nil)))) pa_nil))))), ?_⟩
    refine ⟨_, rfl, _, rfl, g, kd, R, n, es, v, r, cs, rfl, gr, hv, fun H1 l sm nl => ⟨fun e h => ?_, fun ne h => q2 H1 l sm nl ne h⟩⟩
    have hv2' := (hv2 e).same sm
    refine ⟨_, rfl, _, rfl, _, rfl, _, rfl, g, kd, R, n, es, v2, r2, ns, rfl, gr.same sm, hv2', fun H2 l2 sm2 nl2 => ⟨fun e2 h2 => ?_, fun ne h2 => q3 H2 l2 (sm.trans sm2) (sm.free nl2) e ne h2⟩⟩
    refine ⟨g, kd, l, l2, R, n, es, cs, ns, rfl, gr.same (sm.trans sm2), sm2 _ _ h, h2, hv.len e, (hv2 e).len e2, fun H3 R' L b3 gr3 hr1 hr2 nL nRL hL => ?_⟩
    refine ⟨L, _, rfl, .inl ⟨SqL.of hL, fun l3 nl3 => ?_⟩⟩
    have s4 : Same H3 (upd H3 l3 (.tup ((ledOf n es cs ns).map V.int))) := same_upd nl3
    have b : But (· = kd) H (upd H3 l3 (.tup ((ledOf n es cs ns).map V.int))) := ((Same.but (sm.trans sm2)).trans b3).trans (Same.but s4)
    exact q1 _ R' _ e e2 b (gr3.same s4) hr1 (fun x r => (hr2 x r).imp id (sm.trans sm2).free) ((sm.trans sm2).free (gr3.free b3 nl3)) (fun r => (gr3.2.2.2.2.2.2.1 l3 r).1 nl3) upd_same
end
end G3

set_option Elab.async false
set_option linter.all false
set_option maxRecDepth 100000
set_option maxHeartbeats 2000000
namespace G3
open PySem PySem.Spec PyProof.Rows L2
section
variable {P : Program} {w : World} {K : PySem.W.Frag} {mg : Str → Option Value} {base : Heap} {C : Addr}
abbrev n_law_pool : List Str := ["script", "cell"]
abbrev p_law_pool : List Str := ["script"]
theorem sc_law_pool : FnScope n_law_pool p_law_pool (defScope s_law_pool) := ⟨rfl, rfl, rfl, by decide +kernel, rfl, by decide +kernel, by decide +kernel⟩
abbrev n_law_below : List Str := ["pool", "many", "found", "turn"]
abbrev p_law_below : List Str := ["pool", "many"]
theorem sc_law_below : FnScope n_law_below p_law_below (defScope s_law_below) := ⟨rfl, rfl, rfl, by decide +kernel, rfl, by decide +kernel, by decide +kernel⟩
abbrev n_law_power : List Str := ["base", "many", "found", "turn"]
abbrev p_law_power : List Str := ["base", "many"]
theorem sc_law_power : FnScope n_law_power p_law_power (defScope s_law_power) := ⟨rfl, rfl, rfl, by decide +kernel, rfl, by decide +kernel, by decide +kernel⟩
abbrev n_law_great_chips : List Str := ["pool", "n", "figures", "size", "place"]
abbrev p_law_great_chips : List Str := ["pool", "n", "figures"]
theorem sc_law_great_chips : FnScope n_law_great_chips p_law_great_chips (defScope s_law_great_chips) := ⟨rfl, rfl, rfl, by decide +kernel, rfl, by decide +kernel, by decide +kernel⟩
def spPool0 (K : PySem.W.Frag) : Sp := fun vs H Q _ => ∃ (a : Addr) (ns : List Int), vs = [.ref a] ∧ SqL K H a (ns.map V.int) ∧ ns.length ≤ 10000 ∧
  ∀ (H' : Hp) (p c : Addr) (ms : List Int), Same H H' → H p = none → H' p = some (.lst (poolL c 0 0 17)) → H' c = some (.lst (ms.map V.int)) → (∀ x ∈ ms, (0 : Int) ≤ x) → Q (.ref p) H'
theorem ok_pool0 (D : DefAt K mg "_law_pool" "_law_pool" s_law_pool) (B : Bt mg) : Has P w K mg base CX0 1 "_law_pool" p_law_pool (spPool0 K) := by
  refine has_of D sc_law_pool (fun _ _ _ _ _ _ us hl => match us, hl with | [_], _ => rfl) (fun vs H Q E h => ?_) (fun f cdv A outer s H vs Q E hr h => ?_)
  · obtain ⟨a, ns, rfl, _⟩ := h
    rfl
  · obtain ⟨a, ns, rfl, ha, hl, q⟩ := h
    refine ⟨_, (pss_one (ps_ret (pe_lst (pa_cons (pe_lc (own := [("cell", 1)]) (g := gName 1) (tt := tYes) rfl sc_law_pool.nd (piL (K := K) rfl (pv 0)) (blkOk_by (N := n_law_pool) (sc := defScope s_law_pool) (by decide +kernel)) (fun _ _ _ _ _ => (pg_name (i := 1) sc_law_pool.nd rfl (.inl rfl))) (fun _ _ _ _ _ => pts_nil) (fun _ _ _ _ _ => (pe_ifExp (pt_cmpR op_ge (pv 1) pe_int (nomark _)) (pe_op op_mul pe_int (pv 1)) (pe_op op_sub (pe_op op_mul (pe_un un_neg pe_int) (pv 1)) pe_int)))) (pa_cons pe_int (pa_cons pe_int (pa_cons pe_int pa_nil))))))), ?_⟩
    refine ⟨_, rfl, a, rfl, ⟨_, ha⟩, fun L nL => ?_⟩
    refine lc_list (K := K) (a := a) (xs := ns.map V.int) (fun i H2 => Same H H2 ∧ ∃ ms : List Int, ms.length = i ∧ H2 L = some (.lst (ms.map V.int)) ∧ ∀ x ∈ ms, (0 : Int) ≤ x) ⟨same_upd nL, [], rfl, upd_same, fun _ h => nomatch h⟩ (fun i H2 _ p => p.1.seq ha) ?_ ?_
    · rintro i x H2 hx ⟨sm, ms, lms, hL, h0⟩
      have hi : i < ns.length := by have := (List.getElem?_eq_some_iff.mp hx).1; rwa [List.length_map] at this
      rw [getMap hi] at hx
      obtain rfl := Option.some.inj hx
      have fin : ∀ y : Int, 0 ≤ y → ∃ acc, H2 L = some (.lst acc) ∧ acc.length < sizeLine ∧ (Same H (upd H2 L (.lst (acc ++ [.int y]))) ∧ ∃ ms : List Int, ms.length = i + 1 ∧ (upd H2 L (.lst (acc ++ [.int y]))) L = some (.lst (ms.map V.int)) ∧ ∀ x ∈ ms, (0 : Int) ≤ x) := fun y hy =>
        ⟨_, hL, size_lt (by rw [List.length_map]; omega), same_mut sm nL, ms ++ [y], by rw [List.length_append, lms]; rfl, by rw [upd_same, List.map_append]; rfl, fun x hx => by
          rcases List.mem_append.mp hx with hx | hx
          · exact h0 x hx
          · rw [List.mem_singleton.mp hx]; exact hy⟩
      refine ⟨rfl, yes_ ?_⟩
      refine ⟨_, rfl, _, _, rfl, rfl, _, rfl, ifD (fun h => ?_) (fun h => ?_)⟩
      · exact ⟨_, rfl, _, _, rfl, rfl, .inl ⟨by decide, by decide⟩, fin _ (by omega)⟩
      · refine ⟨_, rfl, _, rfl, _, _, rfl, rfl, .inl ⟨by decide, by decide⟩, _, _, rfl, rfl, fin _ ?_⟩
        show (0 : Int) ≤ -2 * ns[i] - 1
        omega
    · rintro H2 ⟨sm, ms, lms, hL, h0⟩
      refine ⟨by show 4 ≤ sizeLine; decide, fun p np => ?_⟩
      exact q _ p L ms (sm.trans (same_upd np)) (sm.free np) upd_same ((same_upd np) _ _ hL) h0
def spPool (K : PySem.W.Frag) : Sp := fun vs H Q _ => ∃ (a : Addr) (ns : List Int), vs = [.ref a] ∧ SqL K H a (ns.map V.int) ∧ ns.length ≤ 10000 ∧ ∀ (H' : Hp) (p : Addr), Same H H' → PoolAt H' p → Q (.ref p) H'
theorem ok_pool (D : DefAt K mg "_law_pool" "_law_pool" s_law_pool) (B : Bt mg) : Has P w K mg base CX0 1 "_law_pool" p_law_pool (spPool K) := by
  obtain ⟨f, fd, F, m, kp, b⟩ := ok_pool0 (P := P) (w := w) (base := base) D B
  refine ⟨f, fd, ghost_call F (fun vs H Q E h => ?_) (fun vs H Q E hp ok h => ?_), m, kp, b⟩
  · obtain ⟨a, ns, rfl, _⟩ := h
    rfl
  · obtain ⟨a, ns, rfl, ha, hl, q⟩ := h
    refine ⟨H, fun v H2 => ∃ (p c : Addr) (ms : List Int), v = .ref p ∧ Same H H2 ∧ H p = none ∧ H2 p = some (.lst (poolL c 0 0 17)) ∧ H2 c = some (.lst (ms.map V.int)) ∧ ∀ x ∈ ms, (0 : Int) ≤ x, fun _ _ _ => False,
      ⟨fun _ e => e, fun _ _ e => e, fun _ _ _ e => e, fun _ _ e => e⟩, ok, ⟨a, ns, rfl, ha, hl, fun H' p c ms a1 a2 a3 a4 a5 => ⟨p, c, ms, rfl, a1, a2, a3, a4, a5⟩⟩, ?_⟩
    rintro v H2 hp2 ok2 ⟨p, c, ms, rfl, sm, np, h1, h2, h3⟩
    refine ⟨_, Gst.upd h1 (fun xs => lst_tup) (fun o u z => by cases z) (fun ps z => by cases z), pool_close ok2 h1 (by decide) (by decide) (by decide) (by decide), ?_⟩
    have ncp : c ≠ p := fun z => by
      rw [z, h1] at h2
      injection h2 with h2
      injection h2 with h2
      cases ms with
      | nil => cases h2
      | cons m ms => injection h2 with h2 _; cases h2
    exact q _ p (same_mut sm np) ⟨c, ms, upd_same, by rw [upd_ne ncp]; exact h2, h3⟩
def spBelow : Sp := fun vs H Q _ => ∃ (a : Addr) (m : Int), vs = [.ref a, .int m] ∧ PoolAt H a ∧ 0 < m ∧ ∀ r, 0 ≤ r → r < m → Q (.int r) H
theorem ok_below (D : DefAt K mg "_law_below" "_law_below" s_law_below) (B : Bt mg) (h_law_take : Has P w K mg base CX0 2 "_law_take" p_law_take spTake) : Has P w K mg base CX0 3 "_law_below" p_law_below spBelow := by
  refine has_of D sc_law_below (fun _ _ _ _ _ _ us hl => match us, hl with | [_, _], _ => rfl) (fun vs H Q E h => ?_) (fun f cdv A outer s H vs Q E hr h => ?_)
  · obtain ⟨a, m, rfl, _⟩ := h
    rfl
  · obtain ⟨a, m, rfl, hp, hm, q⟩ := h
    refine ⟨_, (pss_cons (ps_set (i := 2) sc_law_below.nd rfl (.inl rfl) pe_int)
  (pss_cons (ps_for PassesOwn.never rfl (pi_range1 rfl B.range (pa_cons pe_int pa_nil)) (pg_name (i := 3) sc_law_below.nd rfl (.inl rfl)) (pss_one (ps_set (i := 2) sc_law_below.nd rfl (.inl rfl) (pe_op op_add (pe_op op_mul (pv 2) (pe_op op_pow pe_int pe_int)) (pe_h h_law_take hr pass0 (pa_cons (pv 0) (pa_cons (pe_op op_pow pe_int pe_int) pa_nil)))))))
  (pss_one (ps_ret (pe_op op_mod (pe_callTy call_int1 rfl B.int (by decide +kernel) (pa_cons (pv 2) pa_nil)) (pv 1)))))), ?_⟩
    refine ⟨5, rfl, by decide, by decide, ?_⟩
    refine for_range (lo := 0) (n := (5 : Int).toNat) (fun i σ H' => ∃ (x : Int) (y : Option V), σ = [some (.ref a), some (.int m), some (.int x), y] ∧ H' = H) ?_ ?_ ?_
    · exact ⟨0, none, rfl, rfl⟩
    · rintro i σ H' hi ⟨x, y, rfl, rfl⟩
      refine ⟨_, rfl, _, _, rfl, rfl, ⟨by decide, by decide, by decide⟩, _, _, rfl, rfl, .inr ⟨by decide, by decide⟩, _, rfl, _, _, rfl, rfl, ⟨by decide, by decide, by decide⟩, a, _, rfl, hp, by decide, by decide, fun r r0 r1 => ?_⟩
      exact ⟨_, _, rfl, rfl, _, _, rfl, rfl⟩
    · rintro σ H' ⟨x, y, rfl, rfl⟩
      exact ⟨_, rfl, .inl ⟨_, rfl, _, rfl, _, _, rfl, rfl, hm, q _ (Int.emod_nonneg _ (by omega)) (Int.emod_lt_of_pos _ hm)⟩⟩
def spPower : Sp := fun vs H Q _ => ∃ (b : Int) (k : Nat), vs = [.int b, nV k] ∧ -(2 ^ 64) < b ∧ b < 2 ^ 64 ∧ k ≤ 100000 ∧ Q (.int (b ^ k)) H
theorem ok_power (D : DefAt K mg "_law_power" "_law_power" s_law_power) (B : Bt mg) : Has P w K mg base CX0 1 "_law_power" p_law_power spPower := by
  refine has_of D sc_law_power (fun _ _ _ _ _ _ us hl => match us, hl with | [_, _], _ => rfl) (fun vs H Q E h => ?_) (fun f cdv A outer s H vs Q E hr h => ?_)
  · obtain ⟨b, k, rfl, _⟩ := h
    rfl
  · obtain ⟨b, k, rfl, b1, b2, hk, q⟩ := h
    refine ⟨_, (pss_cons (ps_set (i := 2) sc_law_power.nd rfl (.inl rfl) pe_int)
  (pss_cons (ps_for PassesOwn.never rfl (pi_range1 rfl B.range (pa_cons (pv 1) pa_nil)) (pg_name (i := 3) sc_law_power.nd rfl (.inl rfl)) (pss_one (ps_set (i := 2) sc_law_power.nd rfl (.inl rfl) (pe_op op_mul (pv 2) (pv 0)))))
  (pss_one (ps_ret (pv 2))))), ?_⟩
    refine ⟨_, rfl, _, rfl, by omega, by omega, ?_⟩
    refine for_range (lo := 0) (n := k) (fun i σ H' => ∃ (y : Option V), σ = [some (.int b), some (nV k), some (.int (b ^ i)), y] ∧ H' = H) ?_ ?_ ?_
    · exact ⟨none, by rw [Int.pow_zero]; rfl, rfl⟩
    · rintro i σ H' hi ⟨y, rfl, rfl⟩
      refine ⟨_, rfl, _, rfl, _, _, rfl, rfl, .inr ⟨b1, b2⟩, ?_⟩
      exact ⟨_, by rw [Int.pow_succ]; rfl, rfl⟩
    · rintro σ H' ⟨y, rfl, rfl⟩
      exact ⟨_, rfl, q⟩
def GS (v : V) : Prop := ∃ x : Int, v = .int x ∧ 0 < x ∧ x < 2 ^ 1000
def spGreat : Sp := fun vs H Q _ => ∃ (a : Addr) (n : Nat) (fg : Int), vs = [.ref a, nV n, .int fg] ∧ PoolAt H a ∧ n ≤ 10000 ∧ ∀ (H' : Hp) (L : Addr) (ns : List Int), Same H H' → H L = none → H' L = some (.lst (ns.map V.int)) → ns.length = n → (∀ x ∈ ns, x.natAbs < 2 ^ 1300) → Q (.ref L) H'
theorem ok_great (D : DefAt K mg "_law_great_chips" "_law_great_chips" s_law_great_chips) (B : Bt mg) (h_law_take : Has P w K mg base CX0 2 "_law_take" p_law_take spTake) (h_law_pick : Has P w K mg base CX0 3 "_law_pick" p_law_pick (spPick K))
    (h_law_below : Has P w K mg base CX0 3 "_law_below" p_law_below spBelow) (h_law_power : Has P w K mg base CX0 1 "_law_power" p_law_power spPower) : Has P w K mg base CX0 4 "_law_great_chips" p_law_great_chips spGreat := by
  refine has_of D sc_law_great_chips (fun _ _ _ _ _ _ us hl => match us, hl with | [_, _, _], _ => rfl) (fun vs H Q E h => ?_) (fun f cdv A outer s H vs Q E hr h => ?_)
  · obtain ⟨a, n, fg, rfl, _⟩ := h
    rfl
  · obtain ⟨a, n, fg, rfl, hp, hn, q⟩ := h
    refine ⟨_, (pss_cons (ps_set (i := 3) sc_law_great_chips.nd rfl (.inr rfl) (pe_h h_law_pick hr pass0 (pa_cons (pv 0) (pa_cons (pe_lst (pa_cons pe_int (pa_cons pe_int (pa_cons (pe_op op_pow pe_int pe_int) (pa_cons (pe_op op_pow pe_int pe_int) pa_nil))))) pa_nil))))
  (Evl.pss_cut (ps_if (pt_cmpR op_gt (pv 2) pe_int (nomark _)) (pss_one (ps_set (i := 3) sc_law_great_chips.nd rfl (.inr rfl) (pe_h h_law_pick hr pass0 (pa_cons (pv 0) (pa_cons (pe_lst (pa_cons (pv 3) (pa_cons (pe_h h_law_power hr pass0 (pa_cons pe_int (pa_cons pe_int pa_nil))) (pa_cons (pe_h h_law_power hr pass0 (pa_cons pe_int (pa_cons pe_int pa_nil))) pa_nil)))) pa_nil))))) pss_nil)
  (pss_one (ps_ret (pe_lc (own := [("place", 4)]) (g := gName 4) (tt := tYes) rfl sc_law_great_chips.nd (pi_range1 rfl B.range (pa_cons (pv 1) pa_nil)) (blkOk_by (N := n_law_great_chips) (sc := defScope s_law_great_chips) (by decide +kernel)) (fun _ _ _ _ _ => (pg_name (i := 4) sc_law_great_chips.nd rfl (.inl rfl))) (fun _ _ _ _ _ => pts_nil) (fun _ _ _ _ _ => (pe_ifExp (pt_cmpR op_le (pv 3) (pe_op op_pow pe_int pe_int) (nomark _)) (pe_op op_sub (pe_h h_law_below hr pass0 (pa_cons (pv 0) (pa_cons (pe_op op_add (pe_op op_mul pe_int (pv 3)) pe_int) pa_nil))) (pv 3)) (pe_op op_add (pe_op op_mulW (pe_callTy call_int1 rfl B.int (by decide +kernel) (pa_cons (pe_op op_fdivW (pv 3) (pe_op op_pow pe_int pe_int)) pa_nil)) (pe_op op_sub (pe_h h_law_below hr pass0 (pa_cons (pv 0) (pa_cons (pe_op op_add (pe_op op_mul pe_int (pe_op op_pow pe_int pe_int)) pe_int) pa_nil))) (pe_op op_pow pe_int pe_int))) (pe_h h_law_take hr pass0 (pa_cons (pv 0) (pa_cons (pe_op op_pow pe_int pe_int) pa_nil))))))))))), ?_⟩
    refine ⟨_, rfl, _, _, rfl, rfl, ⟨by decide, by decide, by decide⟩, _, _, rfl, rfl, ⟨by decide, by decide, by decide⟩, by show 4 ≤ sizeLine; decide, fun L1 n1 => ?_⟩
    have s1 : Same H (upd H L1 (.lst [.int 10, .int 100, .int (10 ^ (9 : Int).toNat), .int (10 ^ (30 : Int).toNat)])) := same_upd n1
    refine ⟨a, L1, _, rfl, hp.same s1, SqL.of upd_same, by decide, by decide, fun i v hv => ?_⟩
    have gv : GS v := by
      have hm := List.mem_of_getElem? hv
      simp only [List.mem_cons, List.not_mem_nil, or_false] at hm
      rcases hm with rfl | rfl | rfl | rfl
      · exact ⟨_, rfl, by decide, by decide +kernel⟩
      · exact ⟨_, rfl, by decide, by decide +kernel⟩
      · exact ⟨_, rfl, by decide, by decide +kernel⟩
      · exact ⟨_, rfl, by decide +kernel, by decide +kernel⟩
    generalize upd H L1 (.lst [.int 10, .int 100, .int (10 ^ (9 : Int).toNat), .int (10 ^ (30 : Int).toNat)]) = H1 at s1
    refine ⟨fun σ H' => ∃ v, σ = [some (.ref a), some (nV n), some (.int fg), some v, none] ∧ GS v ∧ Same H H', ?_, ?_⟩
    · refine ⟨_, rfl, _, _, rfl, rfl, _, rfl, ifD (fun _ => ?_) (fun _ => ⟨v, rfl, gv, s1⟩)⟩
      refine ⟨_, rfl, _, rfl, 10, 100, rfl, by decide, by decide, by decide, 10, 289, rfl, by decide, by decide, by decide, by show 3 ≤ sizeLine; decide, fun L2 n2 => ?_⟩
      have s2 : Same H1 (upd H1 L2 (.lst [v, .int (10 ^ 100), .int (10 ^ 289)])) := same_upd n2
      refine ⟨a, L2, _, rfl, hp.same (s1.trans s2), SqL.of upd_same, by show 0 < 3; decide, by show 3 < 1000000000; decide, fun i v' hv' => ?_⟩
      refine ⟨v', rfl, ?_, s1.trans s2⟩
      have hm := List.mem_of_getElem? hv'
      simp only [List.mem_cons, List.not_mem_nil, or_false] at hm
      rcases hm with rfl | rfl | rfl
      · exact gv
      · exact ⟨_, rfl, by decide +kernel, by decide +kernel⟩
      · exact ⟨_, rfl, by decide +kernel, by decide +kernel⟩
    · rintro σ H' ⟨v, rfl, ⟨x, rfl, x0, x1⟩, sm⟩
      refine ⟨_, rfl, n, rfl, by omega, by omega, fun L nL => ?_⟩
      refine lc_range (lo := 0) (n := n) (fun i H2 => Same H' H2 ∧ ∃ ns : List Int, ns.length = i ∧ H2 L = some (.lst (ns.map V.int)) ∧ ∀ x ∈ ns, x.natAbs < 2 ^ 1300) ⟨same_upd nL, [], rfl, upd_same, fun _ h => nomatch h⟩ ?_ ?_
      · rintro i H2 hi ⟨sm2, ns, ls, hL, hb⟩
        have fin : ∀ y : Int, y.natAbs < 2 ^ 1300 → ∃ acc, H2 L = some (.lst acc) ∧ acc.length < sizeLine ∧ (Same H' (upd H2 L (.lst (acc ++ [.int y]))) ∧ ∃ ns : List Int, ns.length = i + 1 ∧ (upd H2 L (.lst (acc ++ [.int y]))) L = some (.lst (ns.map V.int)) ∧ ∀ x ∈ ns, x.natAbs < 2 ^ 1300) := fun y hy =>
          ⟨_, hL, size_lt (by rw [List.length_map]; omega), same_mut sm2 nL, ns ++ [y], by rw [List.length_append, ls]; rfl, by rw [upd_same, List.map_append]; rfl, fun x hx => by
            rcases List.mem_append.mp hx with hx | hx
            · exact hb x hx
            · rw [List.mem_singleton.mp hx]; exact hy⟩
        have hp2 := hp.same (sm.trans sm2)
        have hx10 : x.natAbs < 2 ^ 1000 := by
          have : x.natAbs = x.toNat := by omega
          rw [this]
          have h : (x.toNat : Int) < ((2 ^ 1000 : Nat) : Int) := by rw [Int.toNat_of_nonneg (by omega)]; exact x1
          exact Int.ofNat_lt.mp h
        refine ⟨rfl, yes_ ?_⟩
        refine ⟨_, rfl, _, _, rfl, rfl, ⟨by decide, by decide, by decide⟩, _, _, rfl, rfl, _, rfl, ifD (fun _ => ?_) (fun _ => ?_)⟩
        · refine ⟨_, rfl, _, rfl, _, _, rfl, rfl, .inl ⟨by decide, by decide⟩, _, _, rfl, rfl, a, _, rfl, hp2, by omega, fun r r0 r1 => ?_⟩
          exact ⟨_, rfl, _, _, rfl, rfl, fin _ (Nat.lt_of_le_of_lt (show (r - x).natAbs ≤ x.natAbs by omega) (Nat.lt_of_lt_of_le hx10 (Nat.pow_le_pow_right (by decide) (by decide))))⟩
        · have e28 : (10 : Int) ^ (28 : Int).toNat = 10000000000000000000000000000 := by decide +kernel
          have lt28 : ((10 : Int) ^ (28 : Int).toNat).natAbs < 2 ^ 100 := by rw [e28]; decide
          have p28 : (0 : Int) < (10 : Int) ^ (28 : Int).toNat := by rw [e28]; decide
          refine ⟨_, rfl, _, _, rfl, rfl, ⟨by decide, by decide, by decide⟩, _, _, rfl, rfl, wide_div p28 lt28 (by decide) (by decide), .inl ⟨_, rfl, ?_⟩⟩
          refine ⟨_, rfl, _, _, rfl, rfl, ⟨by decide, by decide, by decide⟩, _, _, rfl, rfl, .inl ⟨by decide, by decide⟩, _, _, rfl, rfl, a, _, rfl, hp2, by omega, fun r r0 r1 => ?_⟩
          have w1 : (x / (10 : Int) ^ (28 : Int).toNat).natAbs < 2 ^ 1000 := wide_le (Int.ediv_nonneg (by omega) (by omega)) (Int.le_trans (Int.ediv_le_self _ (by omega)) (Int.le_refl x)) hx10
          have w2 : (r - (10 : Int) ^ (28 : Int).toNat).natAbs < 2 ^ 200 := by
            have : (2 : Nat) ^ 200 = 1606938044258990275541962092341162602522202993782792835301376 := by decide
            rw [this]
            rw [e28] at r1 ⊢
            omega
          refine ⟨_, _, rfl, rfl, ⟨by decide, by decide, by decide⟩, _, _, rfl, rfl, _, _, rfl, rfl, wide_mul (a := 1000) (b := 200) w1 w2 (by decide) (by decide) (by decide), ?_⟩
          refine ⟨_, rfl, _, _, rfl, rfl, ⟨by decide, by decide, by decide⟩, a, _, rfl, hp2, by decide, by decide, fun r' r0' r1' => ?_⟩
          refine ⟨_, _, rfl, rfl, fin _ ?_⟩
          have w3 := wide_lt w1 w2
          have w4 : r'.natAbs < 2 ^ 1200 := Nat.lt_of_lt_of_le (show r'.natAbs < 2 ^ 20 by
            have e6 : (10 : Int) ^ (6 : Int).toNat = 1000000 := by decide
            rw [e6] at r1'
            have : (2 : Nat) ^ 20 = 1048576 := by decide
            omega) (Nat.pow_le_pow_right (by decide) (by decide))
          have e1200 : (2 : Nat) ^ 1300 = 2 ^ 100 * 2 ^ 1200 := by rw [← Nat.pow_add]
          have h2 : 2 ^ 1200 + 2 ^ 1200 ≤ (2 : Nat) ^ 1300 := by
            rw [e1200, ← Nat.two_mul]
            exact Nat.mul_le_mul_right _ (by decide)
          have w3 : (x / (10 : Int) ^ (28 : Int).toNat * (r - (10 : Int) ^ (28 : Int).toNat)).natAbs < 2 ^ 1200 := w3
          have w5 : (x / (10 : Int) ^ (28 : Int).toNat * (r - (10 : Int) ^ (28 : Int).toNat) + r').natAbs ≤ (x / (10 : Int) ^ (28 : Int).toNat * (r - (10 : Int) ^ (28 : Int).toNat)).natAbs + r'.natAbs := Int.natAbs_add_le _ _
          exact Nat.lt_of_le_of_lt w5 (Nat.lt_of_lt_of_le (Nat.add_lt_add w3 w4) h2)
      · rintro H2 ⟨sm2, ns, ls, hL, hb⟩
        exact q _ L ns (sm.trans sm2) (sm.free nL) hL ls hb
end
end G3

set_option Elab.async false
set_option linter.all false
set_option maxRecDepth 100000
set_option maxHeartbeats 2000000
namespace G3
open PySem PySem.Spec PyProof.Rows L2
/-- a line of the table -/
def tabLine (es : List Pr) (n v : Nat) : List Int := (List.range n).map fun u => (mult es v u : Int)
theorem tabLine_get {es : List Pr} {n v u : Nat} (h : u < n) : ((tabLine es n v).map V.int)[u]? = some (nV (mult es v u)) := by
  unfold tabLine
  rw [List.getElem?_map, List.getElem?_map, List.getElem?_range h]; rfl
theorem tabLine_len {es : List Pr} {n v : Nat} : ((tabLine es n v).map V.int).length = n := by
  unfold tabLine
  rw [List.length_map, List.length_map, List.length_range]
theorem tabLine_set {es es' : List Pr} {n v a : Nat} (h : ∀ u, u < n → mult es' v u = if u = a then mult es v a + 1 else mult es v u) : ((tabLine es n v).map V.int).set a (nV (mult es v a + 1)) = (tabLine es' n v).map V.int := by
  apply List.ext_getElem?
  intro i
  by_cases hi : i < n
  · rw [tabLine_get hi, h i hi]
    by_cases c : a = i
    · subst c
      rw [List.getElem?_set_self (by rw [tabLine_len]; exact hi), if_pos rfl]
    · rw [List.getElem?_set_ne c, tabLine_get hi, if_neg (fun z => c z.symm)]
  · rw [List.getElem?_eq_none (by rw [List.length_set, tabLine_len]; omega), List.getElem?_eq_none (by rw [tabLine_len]; omega)]
theorem rep_zero {n v : Nat} : (List.replicate n [V.int 0]).flatten = (tabLine [] n v).map V.int := by
  apply List.ext_getElem?
  intro i
  have e : ∀ n : Nat, (List.replicate n [V.int 0]).flatten = List.replicate n (V.int 0) := fun n => by
    induction n with
    | zero => rfl
    | succ n ih => rw [List.replicate_succ, List.flatten_cons, ih]; rfl
  rw [e]
  by_cases hi : i < n
  · rw [tabLine_get hi, List.getElem?_replicate, if_pos hi]; rfl
  · rw [List.getElem?_eq_none (by rw [List.length_replicate]; omega), List.getElem?_eq_none (by rw [tabLine_len]; omega)]
section
variable {P : Program} {w : World} {K : PySem.W.Frag} {mg : Str → Option Value} {base : Heap} {C : Addr}
abbrev n_law_table : List Str := ["n", "edges", "rows", "one", "other", "place"]
abbrev p_law_table : List Str := ["n", "edges"]
theorem sc_law_table : FnScope n_law_table p_law_table (defScope s_law_table) := ⟨rfl, rfl, rfl, by decide +kernel, rfl, by decide +kernel, by decide +kernel⟩
abbrev n_law_led : List Str := ["table", "chips", "script", "found", "u", "v"]
abbrev p_law_led : List Str := ["table", "chips", "script"]
theorem sc_law_led : FnScope n_law_led p_law_led (defScope s_law_led) := ⟨rfl, rfl, rfl, by decide +kernel, rfl, by decide +kernel, by decide +kernel⟩
def spTable : Sp := fun vs H Q _ => ∃ (n : Nat) (l : Addr) (es : List Pr), vs = [nV n, .ref l] ∧ PLst H l es ∧ (∀ e ∈ es, e.1 < e.2 ∧ e.2 < n) ∧ n ≤ 1000 ∧ es.length ≤ 10000 ∧
  ∀ (H' : Hp) (T : Addr) (as : List Addr), Same H H' → H T = none → as.length = n → (∀ a ∈ as, H a = none) → Rows H' T as (fun v => .lst ((tabLine es n v).map V.int)) → Q (.ref T) H'
theorem ok_table (D : DefAt K mg "_law_table" "_law_table" s_law_table) (B : Bt mg) : Has P w K mg base CX0 1 "_law_table" p_law_table spTable := by
  refine has_of D sc_law_table (fun _ _ _ _ _ _ us hl => match us, hl with | [_, _], _ => rfl) (fun vs H Q E h => ?_) (fun f cdv A outer s H vs Q E hr h => ?_)
  · obtain ⟨n, l, es, rfl, _⟩ := h
    rfl
  · obtain ⟨n, l, es, rfl, ⟨vs, hl, hvs⟩, hes, hn, hel, q⟩ := h
    refine ⟨_, (pss_cons (ps_setLc (i := 2) (own := [("place", 5)]) (g := gName 5) (tt := tYes) rfl sc_law_table.nd rfl rfl (sw_true rfl rfl rfl (by decide +kernel)) (pi_range1 rfl B.range (pa_cons (pv 0) pa_nil)) (blkOk_by (N := n_law_table) (sc := defScope s_law_table) (by decide +kernel)) (fun _ _ _ _ _ => (pg_name (i := 5) sc_law_table.nd rfl (.inl rfl))) (fun _ _ _ _ _ => pts_nil) (fun _ _ _ _ _ => (pe_op op_rep (pe_lst (pa_cons pe_int pa_nil)) (pv 0))))
  (pss_cons (ps_for PassesOwn.never rfl (piL (K := K) rfl (pv 1)) (pgT (K := K) (n := 2) rfl rfl (pgs_cons (pg_name (i := 3) sc_law_table.nd rfl (.inl rfl)) (pgs_cons (pg_name (i := 4) sc_law_table.nd rfl (.inl rfl)) pgs_nil))) (pss_cons (ps_asg (pe_op op_add (pe_ix (ixL (K := K) rfl) (pe_ix (ixL (K := K) rfl) (pv 2) (pv 3) (fun _ _ => rfl)) (pv 4) (fun _ _ => rfl)) pe_int) (pg_sub (pe_ix (ixL (K := K) rfl) (pv 2) (pv 3) (fun _ _ => rfl)) (pv 4) set_list))
  (pss_one (ps_asg (pe_op op_add (pe_ix (ixL (K := K) rfl) (pe_ix (ixL (K := K) rfl) (pv 2) (pv 4) (fun _ _ => rfl)) (pv 3) (fun _ _ => rfl)) pe_int) (pg_sub (pe_ix (ixL (K := K) rfl) (pv 2) (pv 4) (fun _ _ => rfl)) (pv 3) set_list)))))
  (pss_one (ps_ret (pv 2))))), ?_⟩
    refine ⟨_, rfl, n, rfl, by omega, by omega, fun B0 nB => ?_⟩
    refine lc_range (lo := 0) (n := n) (fun i H2 => Same H H2 ∧ ∃ as, as.length = i ∧ Rows H2 B0 as (fun v => .lst ((tabLine [] n v).map V.int)) ∧ ∀ a ∈ as, H a = none) ⟨same_upd nB, [], rfl, Rows.nil, fun a h => nomatch h⟩ ?_ ?_
    · rintro i H2 hi ⟨sm, as, las, ro, fr⟩
      refine ⟨rfl, yes_ ?_⟩
      refine ⟨by show 1 ≤ sizeLine; decide, fun z nz => ?_⟩
      have sz : Same H2 (upd H2 z (.lst [.int 0])) := same_upd nz
      refine ⟨_, rfl, z, n, [.int 0], rfl, rfl, upd_same, by omega, by omega, size_le (by show 1 * _ ≤ _; omega), fun a na => ?_⟩
      have e : (List.replicate (n : Int).toNat [V.int 0]).flatten = (tabLine [] n as.length).map V.int := rep_zero
      rw [e]
      have s2 := sm.trans sz
      obtain ⟨p1, p2⟩ := (ro.same sz).push (o := .lst ((tabLine [] n as.length).map V.int)) na rfl
      refine ⟨_, p1, size_lt (by rw [List.length_map]; omega), same_mut (s2.trans (same_upd na)) nB, as ++ [a], by rw [List.length_append, las]; rfl, p2, fun x hx => ?_⟩
      rcases List.mem_append.mp hx with hx | hx
      · exact fr x hx
      · rw [List.mem_singleton.mp hx]; exact s2.free na
    rintro H2 ⟨sm2, as, las, ro, fr⟩
    have notAs : ∀ x o, H x = some o → ¬ x ∈ as := fun x o e z => by
      have := fr x z
      rw [e] at this; cases this
    refine ⟨_, rfl, l, rfl, ⟨_, SqL.of (sm2 _ _ hl)⟩, ?_⟩
    refine for_list (K := K) (a := l) (xs := vs) (fun i σ H' => ∃ (y z t : Option V), σ = [some (nV n), some (.ref l), some (.ref B0), y, z, t] ∧ But (· ∈ as) H2 H' ∧ Rows H' B0 as (fun v => .lst ((tabLine (es.take i) n v).map V.int))) ?_ ?_ ?_ ?_
    · exact ⟨_, _, _, rfl, But.refl, ro⟩
    · rintro i σ H' hi ⟨_, _, _, _, bt, _⟩
      exact SqL.of (bt _ _ (notAs _ _ hl) (sm2 _ _ hl))
    · rintro i x σ H' hx ⟨y, z, t0, rfl, bt, ro'⟩
      have hi : i < es.length := by rw [← hvs.len]; exact (List.getElem?_eq_some_iff.mp hx).1
      obtain ⟨t, e1, e2⟩ := hvs.get hi
      rw [hx] at e1
      obtain rfl := Option.some.inj e1
      obtain ⟨b1, b2⟩ := hes _ (List.getElem_mem hi)
      have hei : es[i]? = some es[i] := List.getElem?_eq_getElem hi
      generalize es[i] = e at e2 b1 b2 hei
      obtain ⟨a, b⟩ := e
      have ht : H' t = some (.tup [nV a, nV b]) := bt _ _ (notAs _ _ e2) (sm2 _ _ e2)
      refine ⟨t, _, rfl, SqT.of ht, rfl, _, _, rfl, _, _, rfl, rfl, ?_⟩
      have b1 : a < b := b1
      have b2 : b < n := b2
      have la : a < as.length := by omega
      have lb : b < as.length := by omega
      have ha := (ro'.at la).2
      -- rows[one][other] + 1
      refine ⟨_, rfl, _, rfl, _, _, a, .ref as[a], rfl, rfl, SqL.of ro'.1, atI_nat (rows_get la), _, rfl, _, _, b, _, rfl, rfl, SqL.of ha, atI_nat (tabLine_get b2), _, _, rfl, rfl, ?_⟩
      refine ⟨_, rfl, _, rfl, _, _, a, .ref as[a], rfl, rfl, SqL.of ro'.1, atI_nat (rows_get la), _, rfl, as[a], _, b, b, rfl, rfl, ha, Evl.ixN_nat (by rw [tabLine_len]; exact b2), ?_⟩
      have nab : ¬ b = a := by omega
      have r1 := ro'.set (o := .lst (((tabLine (es.take i) n a).map V.int).set b (nV (mult (es.take i) a b + 1)))) (List.getElem?_eq_getElem la)
      have m1 : But (· ∈ as) H' (upd H' as[a] (.lst (((tabLine (es.take i) n a).map V.int).set b (nV (mult (es.take i) a b + 1))))) := But.mut (X := (· ∈ as)) (List.getElem_mem la)
      have hb := (r1.at lb).2
      have hb : (upd H' as[a] (.lst (((tabLine (es.take i) n a).map V.int).set b (nV (mult (es.take i) a b + 1))))) as[b] = some (.lst ((tabLine (es.take i) n b).map V.int)) := by
        rw [hb]; show some (if b = a then _ else _) = _; rw [if_neg nab]
      have a1 : a < n := by omega
      refine ⟨_, rfl, _, rfl, _, _, b, .ref as[b], rfl, rfl, SqL.of r1.1, atI_nat (rows_get lb), _, rfl, _, _, a, _, rfl, rfl, SqL.of hb, atI_nat (tabLine_get a1), _, _, rfl, rfl, ?_⟩
      refine ⟨_, rfl, _, rfl, _, _, b, .ref as[b], rfl, rfl, SqL.of r1.1, atI_nat (rows_get lb), _, rfl, as[b], _, a, a, rfl, rfl, hb, Evl.ixN_nat (by rw [tabLine_len]; exact a1), ?_⟩
      refine ⟨_, _, _, rfl, (bt.trans m1).trans (But.mut (X := (· ∈ as)) (List.getElem_mem lb)), ?_⟩
      refine (r1.set (o := .lst (((tabLine (es.take i) n b).map V.int).set a (nV (mult (es.take i) b a + 1)))) (List.getElem?_eq_getElem lb)).to fun v hv => ?_
      show (if v = b then HO.lst (((tabLine (es.take i) n b).map V.int).set a (nV (mult (es.take i) b a + 1))) else if v = a then HO.lst (((tabLine (es.take i) n a).map V.int).set b (nV (mult (es.take i) a b + 1))) else .lst ((tabLine (es.take i) n v).map V.int)) = _
      by_cases c : v = b
      · subst c
        rw [if_pos rfl, tabLine_set (es' := es.take (i + 1)) fun u hu => ?_]
        rw [mult_take hei]
        by_cases d : u = a
        · subst d
          rw [if_pos rfl, if_neg (show ¬ (u, v) = (v, u) from fun z => by cases z; omega), if_pos rfl]
        · rw [if_neg d, if_neg (show ¬ (a, v) = (v, u) from fun z => by cases z; omega), if_neg (show ¬ (a, v) = (u, v) from fun z => by cases z; exact d rfl)]; rfl
      · rw [if_neg c]
        by_cases c2 : v = a
        · subst c2
          rw [if_pos rfl, tabLine_set (es' := es.take (i + 1)) fun u hu => ?_]
          rw [mult_take hei]
          by_cases d : u = b
          · subst d
            rw [if_pos rfl, if_pos rfl, if_neg (show ¬ (v, u) = (u, v) from fun z => by cases z; omega)]
          · rw [if_neg d, if_neg (show ¬ (v, b) = (v, u) from fun z => by cases z; exact d rfl), if_neg (show ¬ (v, b) = (u, v) from fun z => by cases z; omega)]; rfl
        · rw [if_neg c2]
          have : tabLine (es.take (i + 1)) n v = tabLine (es.take i) n v := by
            unfold tabLine
            refine List.map_congr_left fun u _ => ?_
            rw [mult_take hei, if_neg (show ¬ (a, b) = (v, u) from fun z => by cases z; exact c2 rfl), if_neg (show ¬ (a, b) = (u, v) from fun z => by cases z; exact c rfl)]; rfl
          rw [this]
    · rintro σ H' ⟨y, z, t, rfl, bt, ro'⟩
      rw [hvs.len, List.take_length] at ro'
      exact ⟨_, rfl, q _ _ as (bt.same sm2 fr) nB las fr ro'⟩
def spLedT (K : PySem.W.Frag) : Sp := fun vs H Q _ => ∃ (T c0 q0 : Addr) (as : List Addr) (n : Nat) (es : List Pr) (cs ns : List Int), vs = [.ref T, .ref c0, .ref q0] ∧ Rows H T as (fun v => .lst ((tabLine es n v).map V.int)) ∧ as.length = n ∧ n ≤ 1000 ∧ es.length ≤ 10000 ∧ H c0 = some (.lst (cs.map V.int)) ∧ H q0 = some (.lst (ns.map V.int)) ∧ cs.length = n ∧ ns.length = n ∧
  ∀ (H' : Hp) (L : Addr), Same H H' → H L = none → H' L = some (.lst ((ledOf n es cs ns).map V.int)) → Q (.ref L) H'
theorem ok_ledT (D : DefAt K mg "_law_led" "_law_led" s_law_led) (B : Bt mg) : Has P w K mg base CX0 1 "_law_led" p_law_led (spLedT K) := by
  refine has_of D sc_law_led (fun _ _ _ _ _ _ us hl => match us, hl with | [_, _, _], _ => rfl) (fun vs H Q E h => ?_) (fun f cdv A outer s H vs Q E hr h => ?_)
  · obtain ⟨T, c0, q0, as, n, es, cs, ns, rfl, _⟩ := h
    rfl
  · obtain ⟨T, c0, q0, as, n, es, cs, ns, rfl, ro, las, hn, hes, hc, hq, hcs, hns, q⟩ := h
    refine ⟨_, (pss_cons (ps_set (i := 3) sc_law_led.nd rfl (.inl rfl) (pe_lst pa_nil))
  (pss_cons (ps_for PassesOwn.never rfl (pi_range1 rfl B.range (pa_cons (pe_callB (lenK (K := K) rfl) rfl B.len PySem.boot_len (pa_cons (pv 0) pa_nil)) pa_nil)) (pg_name (i := 4) sc_law_led.nd rfl (.inr rfl)) (pss_one (ps_expr (pe_bm PySem.F.plainAttrs_list PySem.F.slot_list_append PySem.F.type_list_append mt_append (pv 3) (pa_cons (pe_op op_sub (pe_ix (ixL (K := K) rfl) (pv 1) (pv 4) (fun _ _ => rfl)) (pe_callB (sumK (K := K) rfl rfl) rfl B.sum (by decide +kernel) (pa_cons (pe_lc (own := [("v", 5)]) (g := gName 5) (tt := tYes) rfl sc_law_led.nd (pi_range1 rfl B.range (pa_cons (pe_callB (lenK (K := K) rfl) rfl B.len PySem.boot_len (pa_cons (pv 0) pa_nil)) pa_nil)) (blkOk_by (N := n_law_led) (sc := defScope s_law_led) (by decide +kernel)) (fun _ _ _ _ _ => (pg_name (i := 5) sc_law_led.nd rfl (.inl rfl))) (fun _ _ _ _ _ => pts_nil) (fun _ _ _ _ _ => (pe_op op_mul (pe_ix (ixL (K := K) rfl) (pe_ix (ixL (K := K) rfl) (pv 0) (pv 4) (fun _ _ => rfl)) (pv 5) (fun _ _ => rfl)) (pe_op op_sub (pe_ix (ixL (K := K) rfl) (pv 2) (pv 4) (fun _ _ => rfl)) (pe_ix (ixL (K := K) rfl) (pv 2) (pv 5) (fun _ _ => rfl)))))) pa_nil))) pa_nil)))))
  (pss_one (ps_ret (pv 3))))), ?_⟩
    have lenT : (as.map V.ref).length = n := by rw [List.length_map, las]
    refine ⟨by show 0 ≤ sizeLine; decide, fun F0 nF => ?_⟩
    have s1 : Same H (upd H F0 (.lst [])) := same_upd nF
    have hF : (upd H F0 (.lst [])) F0 = some (.lst []) := upd_same
    generalize upd H F0 (.lst []) = H1 at s1 hF
    have hT : ∀ H', Same H H' → LenV K (.ref T) H' n := fun H' sm => .inl ⟨_, SqL.of (sm _ _ ro.1), lenT.symm⟩
    refine ⟨_, rfl, _, n, rfl, hT _ s1, n, rfl, by omega, by omega, ?_⟩
    refine for_range (lo := 0) (n := n) (fun i σ H' => ∃ (y z : Option V), σ = [some (.ref T), some (.ref c0), some (.ref q0), some (.ref F0), y, z] ∧ Same H H' ∧ H' F0 = some (.lst (((ledOf n es cs ns).take i).map V.int))) ?_ ?_ ?_
    · exact ⟨_, _, rfl, s1, hF⟩
    · rintro i σ H' hi ⟨y, z, rfl, sm, hF'⟩
      have ei : V.int (0 + (i : Int)) = nV i := by rw [Int.zero_add]
      rw [ei]
      have gc : (cs.map V.int)[i]? = some (.int (cs.getD i 0)) := by
        have : i < cs.length := by omega
        rw [getMap this, List.getD_eq_getElem?_getD, List.getElem?_eq_getElem this]; rfl
      have gs : ∀ i : Nat, i < n → (ns.map V.int)[i]? = some (.int (ns.getD i 0)) := fun i hi => by
        have : i < ns.length := by omega
        rw [getMap this, List.getD_eq_getElem?_getD, List.getElem?_eq_getElem this]; rfl
      refine ⟨_, rfl, .inl ⟨rfl, _, SqL.of hF'⟩, _, rfl, _, rfl, _, _, i, _, rfl, rfl, SqL.of (sm _ _ hc), atI_nat gc, ?_⟩
      refine ⟨_, rfl, _, n, rfl, hT _ sm, n, rfl, by omega, by omega, fun L nL => ?_⟩
      refine lc_range (lo := 0) (n := n) (fun j H2 => Same H' H2 ∧ H2 L = some (.lst (((List.range j).map fun u => (mult es i u : Int) * (ns.getD i 0 - ns.getD u 0)).map V.int))) ⟨same_upd nL, upd_same⟩ ?_ ?_
      · rintro j H2 hj ⟨sm2, hL⟩
        have ej : V.int (0 + (j : Int)) = nV j := by rw [Int.zero_add]
        rw [ej]
        have s2 := sm.trans sm2
        have ro2 := ro.same s2
        have lI : i < as.length := by omega
        have hml : mult es i j ≤ 20000 := Nat.le_trans mult_le (by omega)
        refine ⟨rfl, yes_ ?_⟩
        refine ⟨_, rfl, _, rfl, _, _, i, .ref as[i], rfl, rfl, SqL.of ro2.1, atI_nat (rows_get lI), _, rfl, _, _, j, _, rfl, rfl, SqL.of (ro2.at lI).2, atI_nat (tabLine_get hj), ?_⟩
        refine ⟨_, rfl, _, rfl, _, _, i, _, rfl, rfl, SqL.of (s2 _ _ hq), atI_nat (gs i hi), _, rfl, _, rfl, _, _, j, _, rfl, rfl, SqL.of (s2 _ _ hq), atI_nat (gs j hj), ?_⟩
        refine ⟨_, _, rfl, rfl, _, _, rfl, rfl, .inl ⟨by omega, by omega⟩, _, hL, size_lt (by rw [List.length_map, List.length_map, List.length_range]; omega), same_mut sm2 nL, ?_⟩
        rw [upd_same, List.range_succ, List.map_append, List.map_append]; rfl
      · rintro H2 ⟨sm2, hL⟩
        refine ⟨L, _, rfl, SqL.of hL, _, _, rfl, rfl, F0, _, _, rfl, rfl, sm2 _ _ hF', size_lt (by rw [List.length_map, List.length_take]; omega), ?_⟩
        refine ⟨_, _, rfl, same_mut (sm.trans sm2) nF, ?_⟩
        have e : (ledOf n es cs ns)[i]? = some (cs.getD i 0 - sentOf n es (fun i => ns.getD i 0) i) := by
          unfold ledOf
          rw [List.getElem?_map, List.getElem?_range hi]; rfl
        rw [upd_same, List.take_add_one, e, List.map_append]; rfl
    · rintro σ H' ⟨y, z, rfl, sm, hF'⟩
      have e : (ledOf n es cs ns).take n = ledOf n es cs ns := List.take_of_length_le (by unfold ledOf; simp)
      rw [e] at hF'
      exact ⟨_, rfl, q _ _ sm nF hF'⟩
end
end G3

set_option Elab.async false
set_option linter.all false
set_option maxRecDepth 100000
set_option maxHeartbeats 2000000
namespace G3
open PySem PySem.Spec PyProof.Rows L2
/-! ### one sign, k times -/
theorem size_fold (a : Array Nat) : ∀ (k : Nat) (acc : Array Nat), ((List.replicate k a).foldl (· ++ ·) acc).size = acc.size + k * a.size
  | 0, acc => by simp
  | k + 1, acc => by
    rw [List.replicate_succ, List.foldl_cons, size_fold a k, Array.size_append, Nat.add_mul]
    omega
def rRepS : R2 := fun x y H Q => ∃ (z : Str) (k : Nat), x = .str z ∧ y = .int (k : Int) ∧ z.length = 1 ∧ 1 ≤ k ∧ k ≤ 1000 ∧ ∀ z', Q (.str z') H
theorem op_repS {X : Cx} : OpR X (binaryOp .Mult) rRepS := by
  intro pins s σ H x y v u Q I rx ry h
  obtain ⟨z, k, rfl, rfl, hz, h1, h2, q⟩ := h
  obtain ⟨t, rfl⟩ := rx
  obtain ⟨t2, rfl⟩ := ry
  have hk : (k : Int) ≥ 1 := by omega
  have hd : (2 ^ 63 - 1) / (k : Int) ≥ 1 := by
    have : (1 : Int) ≤ (2 ^ 63 - 1) / (k : Int) := (Int.le_ediv_iff_mul_le (by omega)).mpr (by omega)
    exact this
  refine PySem.P.mul_str ?_ (fun _ _ => by rw [hz]; omega) (fun _ _ => ?_) ?_
  · rw [decide_eq_false (by omega), decide_eq_false (by omega)]; rfl
  · rw [hz]
    exact PyProof.Rows.short24 (by omega)
  · rw [if_neg (by omega)]
    split
    · exact ⟨.str z, _, I, ⟨_, rfl⟩, q z⟩
    · refine ⟨?_, ⟨.str _, _, I.tok _, ⟨_, rfl⟩, q _⟩⟩
      show ((List.replicate (k : Int).toNat z.cps).foldl (· ++ ·) #[]).size ≤ sizeLine
      rw [size_fold]
      have : z.cps.size = 1 := hz
      rw [this, Int.toNat_natCast]
      exact size_le (by show 0 + k * 1 ≤ _; omega)
theorem cut1_len {xs : List V} : (cutV xs (some 1) none).length = xs.length - 1 := by
  unfold cutV
  have e : HT.sIx xs.length 0 (some 1) = min 1 xs.length := HT.sIx_nat xs.length 0 1
  rw [e, HT.sIx_none, List.length_take, List.length_drop]
  omega
theorem cut_from {xs : List V} {k : Nat} (hk : k + 1 ≤ xs.length) : cutV xs (some ((k : Int) + 1)) none = xs.drop (k + 1) := by
  unfold cutV
  have e : HT.sIx xs.length 0 (some ((k : Int) + 1)) = min (k + 1) xs.length := HT.sIx_nat xs.length 0 (k + 1)
  rw [e, HT.sIx_none, Nat.min_eq_left hk]
  exact List.take_of_length_le (by rw [List.length_drop]; omega)
theorem cut_to {xs : List V} {k : Nat} (hk : k ≤ xs.length) : cutV xs none (some (k : Int)) = xs.take k := by
  unfold cutV
  rw [HT.sIx_nat, HT.sIx_none, Nat.min_eq_left hk]
  rfl
def flatD : V → PyData
  | .int i => .int i
  | _ => .none
theorem dp_flat {K : PySem.W.Frag} {H : Hp} : ∀ {vs : List V}, (∀ v ∈ vs, v = .non ∨ ∃ i, v = .int i) → DpAll K H vs (vs.map flatD)
  | [], _ => .nil
  | v :: vs, h => by
    rw [List.map_cons]
    refine .cons ?_ (dp_flat fun u hu => h u (List.mem_cons_of_mem _ hu))
    rcases h v (List.mem_cons_self ..) with rfl | ⟨i, rfl⟩
    · exact .non
    · exact .int i
section
variable {P : Program} {w : World} {K : PySem.W.Frag} {mg : Str → Option Value} {base : Heap} {C : Addr}
abbrev n_law_spoilt_row : List Str := ["pool", "row", "at", "wrong", "later", "one"]
abbrev p_law_spoilt_row : List Str := ["pool", "row"]
theorem sc_law_spoilt_row : FnScope n_law_spoilt_row p_law_spoilt_row (defScope s_law_spoilt_row) := ⟨rfl, rfl, rfl, by decide +kernel, rfl, by decide +kernel, by decide +kernel⟩
def spSpoilt (K : PySem.W.Frag) : Sp := fun vs H Q _ => ∃ (a c0 : Addr) (cs : List Int), vs = [.ref a, .ref c0] ∧ PoolAt H a ∧ H c0 = some (.lst (cs.map V.int)) ∧ 1 ≤ cs.length ∧ cs.length ≤ 1000 ∧
  ∀ (H' : Hp) (T : Addr) (v r : V), Same H H' → H' T = some (.tup [v, r]) → Rw K H' v cs.length r [] → r ≠ .bl true → Q (.ref T) H'
theorem ok_spoilt (D : DefAt K mg "_law_spoilt_row" "_law_spoilt_row" s_law_spoilt_row) (B : Bt mg) (h_law_take : Has P w K mg base CX0 2 "_law_take" p_law_take spTake) (h_law_pick : Has P w K mg base CX0 3 "_law_pick" p_law_pick (spPick K))
    (h_law_given : Has P w K mg base CX0 3 "_law_given" p_law_given (spGiven K)) : Has P w K mg base CX0 4 "_law_spoilt_row" p_law_spoilt_row (spSpoilt K) := by
  refine has_of D sc_law_spoilt_row (fun _ _ _ _ _ _ us hl => match us, hl with | [_, _], _ => rfl) (fun vs H Q E h => ?_) (fun f cdv A outer s H vs Q E hr h => ?_)
  · obtain ⟨a, c0, cs, rfl, _⟩ := h
    rfl
  · obtain ⟨a, c0, cs, rfl, hp, hc, h1, h2, q⟩ := h
    refine ⟨_, (pss_cons (ps_if (pt_cmpR op_eq (pe_h h_law_take hr pass0 (pa_cons (pv 0) (pa_cons pe_int pa_nil))) pe_int (nomark _)) (pss_one (ps_ret (pe_tup (pa_cons (pe_h h_law_pick hr pass0 (pa_cons (pv 0) (pa_cons (pe_lst (pa_cons pe_non (pa_cons pe_int (pa_cons (pe_op op_repS pe_str (pe_callB (lenK (K := K) rfl) rfl B.len PySem.boot_len (pa_cons (pv 1) pa_nil))) (pa_cons (pe_dnewK) (pa_cons (pe_op (catK (K := K) rfl) (pe_callTy (tupK (K := K) rfl) rfl B.tuple (by decide +kernel) (pa_cons (pv 1) pa_nil)) (pe_tup (pa_cons pe_int pa_nil))) (pa_cons (pe_slice (slL (K := K) rfl) (pe_callTy (listK (K := K) rfl) rfl B.list (by decide +kernel) (pa_cons (pv 1) pa_nil)) (po_some pe_int) po_none) (pa_cons pe_bl pa_nil)))))))) pa_nil))) (pa_cons pe_non pa_nil))))) pss_nil)
  (pss_cons (ps_set (i := 2) sc_law_spoilt_row.nd rfl (.inl rfl) (pe_h h_law_take hr pass0 (pa_cons (pv 0) (pa_cons (pe_callB (lenK (K := K) rfl) rfl B.len PySem.boot_len (pa_cons (pv 1) pa_nil)) pa_nil))))
  (pss_cons (ps_set (i := 3) sc_law_spoilt_row.nd rfl (.inl rfl) (pe_h h_law_pick hr pass0 (pa_cons (pv 0) (pa_cons (pe_lst (pa_cons pe_non (pa_cons pe_bl (pa_cons pe_str (pa_cons (pe_tup (pa_cons pe_int pa_nil)) (pa_cons (pe_lst pa_nil) (pa_cons (pe_tup (pa_cons pe_int (pa_cons pe_int pa_nil))) pa_nil))))))) pa_nil))))
  (pss_cons (ps_setLc (i := 4) (own := [("one", 5)]) (g := gName 5) (tt := tYes) rfl sc_law_spoilt_row.nd rfl rfl (sw_true rfl rfl rfl (by decide +kernel)) (piL (K := K) rfl (pe_slice (slL (K := K) rfl) (pv 1) (po_some (pe_op op_add (pv 2) pe_int)) po_none)) (blkOk_by (N := n_law_spoilt_row) (sc := defScope s_law_spoilt_row) (by decide +kernel)) (fun _ _ _ _ _ => (pg_name (i := 5) sc_law_spoilt_row.nd rfl (.inl rfl))) (fun _ _ _ _ _ => pts_nil) (fun _ _ _ _ _ => (pe_h h_law_pick hr pass0 (pa_cons (pv 0) (pa_cons (pe_lst (pa_cons (pv 5) (pa_cons (pv 5) (pa_cons pe_non pa_nil)))) pa_nil)))))
  (pss_one (ps_ret (pe_tup (pa_cons (pe_h h_law_given hr pass0 (pa_cons (pv 0) (pa_cons (pe_op op_cat (pe_op op_cat (pe_callTy (listK (K := K) rfl) rfl B.list (by decide +kernel) (pa_cons (pe_slice (slL (K := K) rfl) (pv 1) po_none (po_some (pv 2))) pa_nil)) (pe_lst (pa_cons (pv 3) pa_nil))) (pv 4)) pa_nil))) (pa_cons (pv 2) pa_nil))))))))), ?_⟩
    have lc : (cs.map V.int).length = cs.length := List.length_map _
    refine ⟨_, rfl, a, 3, rfl, hp, by decide, by decide, fun r r0 r1 => ⟨rfl, _, rfl, ifD (fun _ => ?_) (fun _ => ?_)⟩⟩
    · refine ⟨_, rfl, _, rfl, _, cs.length, rfl, .inl ⟨_, SqL.of hc, lc.symm⟩, "0", cs.length, rfl, rfl, rfl, h1, h2, fun z' => ?_⟩
      intro dA nd
      have s1 : Same H (upd H dA (.dK [])) := same_upd nd
      have hd : (upd H dA (.dK [])) dA = some (.dK []) := upd_same
      generalize upd H dA (.dK []) = H1 at s1 hd ⊢
      refine ⟨_, rfl, c0, _, rfl, .inl ⟨SqL.of (s1 _ _ hc), fun t1 nt1 => ?_⟩⟩
      have s2 : Same H1 (upd H1 t1 (.tup (cs.map V.int))) := same_upd nt1
      have ht1 : (upd H1 t1 (.tup (cs.map V.int))) t1 = some (.tup (cs.map V.int)) := upd_same
      generalize upd H1 t1 (.tup (cs.map V.int)) = H2 at s2 ht1 ⊢
      refine ⟨by show 1 ≤ sizeLine; decide, fun t2 nt2 => ?_⟩
      have s3 : Same H2 (upd H2 t2 (.tup [.int 1])) := same_upd nt2
      have ht2 : (upd H2 t2 (.tup [.int 1])) t2 = some (.tup [.int 1]) := upd_same
      show rCatA K (.ref t1) (.ref t2) (upd H2 t2 (.tup [.int 1])) _
      generalize upd H2 t2 (.tup [.int 1]) = H3 at s3 ht2 ⊢
      have ncs : cs.map V.int ≠ [] := fun z => by
        rw [List.map_eq_nil_iff] at z
        rw [z] at h1; exact absurd h1 (by decide)
      refine ⟨t1, t2, _, _, rfl, rfl, SqT.of (s3 _ _ ht1), SqT.of ht2, size_le (by rw [lc]; show _ + 1 ≤ _; omega), fun z => absurd z ncs, fun _ z => (nomatch z), fun _ _ t3 nt3 => ?_⟩
      have s4 : Same H3 (upd H3 t3 (.tup (cs.map V.int ++ [.int 1]))) := same_upd nt3
      have ht3 : (upd H3 t3 (.tup (cs.map V.int ++ [.int 1]))) t3 = some (.tup (cs.map V.int ++ [.int 1])) := upd_same
      generalize upd H3 t3 (.tup (cs.map V.int ++ [.int 1])) = H4 at s4 ht3 ⊢
      have s14 := ((s1.trans s2).trans s3).trans s4
      refine ⟨_, rfl, c0, _, rfl, .inl (SqL.of (s14 _ _ hc)), fun l1 nl1 => ?_⟩
      have s5 : Same H4 (upd H4 l1 (.lst (cs.map V.int))) := same_upd nl1
      have hl1 : (upd H4 l1 (.lst (cs.map V.int))) l1 = some (.lst (cs.map V.int)) := upd_same
      generalize upd H4 l1 (.lst (cs.map V.int)) = H5 at s5 hl1 ⊢
      refine ⟨_, rfl, l1, _, rfl, SqL.of hl1, fun l2 nl2 => ?_⟩
      have s6 : Same H5 (upd H5 l2 (.lst (cutV (cs.map V.int) (some 1) none))) := same_upd nl2
      have hl2 : (upd H5 l2 (.lst (cutV (cs.map V.int) (some 1) none))) l2 = some (.lst (cutV (cs.map V.int) (some 1) none)) := upd_same
      generalize upd H5 l2 (.lst (cutV (cs.map V.int) (some 1) none)) = H6 at s6 hl2 ⊢
      refine ⟨by show 7 ≤ sizeLine; decide, fun L nL => ?_⟩
      have s16 := (s14.trans s5).trans s6
      have s7 : Same H6 (upd H6 L (.lst [.non, .int 3, .str z', .ref dA, .ref t3, .ref l2, .bl true])) := same_upd nL
      have hL : (upd H6 L (.lst [.non, .int 3, .str z', .ref dA, .ref t3, .ref l2, .bl true])) L = some (.lst [.non, .int 3, .str z', .ref dA, .ref t3, .ref l2, .bl true]) := upd_same
      generalize upd H6 L (.lst [.non, .int 3, .str z', .ref dA, .ref t3, .ref l2, .bl true]) = H7 at s7 hL ⊢
      refine ⟨a, L, _, rfl, hp.same (s16.trans s7), SqL.of hL, by show 0 < 7; decide, by show 7 < 1000000000; decide, fun i v hv => ?_⟩
      refine ⟨by show 2 ≤ sizeLine; decide, fun T nT => ?_⟩
      refine q _ T v .non ((s16.trans s7).trans (same_upd nT)) upd_same (Rw.same (same_upd nT) ?_) (fun z => by cases z)
      have hm := List.mem_of_getElem? hv
      simp only [List.mem_cons, List.not_mem_nil, or_false] at hm
      have s67 := s6.trans s7
      rcases hm with rfl | rfl | rfl | rfl | rfl | rfl | rfl
      · exact .kind (d := .none) (.base .non) rfl
      · exact .kind (d := .int 3) (.base (.int 3)) rfl
      · exact .kind (d := .str z') (.base (.str z')) rfl
      · exact .kind (d := .dict []) (.base (.dK ((((s2.trans s3).trans s4).trans (s5.trans s67)) _ _ hd))) rfl
      · refine .long rfl (.inr (SqT.of ((s5.trans s67) _ _ ht3))) ?_
        rw [List.length_append, lc]
        show cs.length + 1 ≠ cs.length
        omega
      · refine .long rfl (.inl (SqL.of (s7 _ _ hl2))) ?_
        rw [cut1_len, lc]
        omega
      · exact .kind (d := .bool true) (.base (.bl true)) rfl
    · refine ⟨_, rfl, _, rfl, _, cs.length, rfl, .inl ⟨_, SqL.of hc, lc.symm⟩, ?_⟩
      refine ⟨a, _, rfl, hp, by omega, by omega, fun rk k0 k1 => ?_⟩
      obtain ⟨k, rfl⟩ : ∃ k : Nat, rk = k := ⟨rk.toNat, by omega⟩
      have hk : k < cs.length := by omega
      -- wrong
      refine ⟨_, rfl, by show 1 ≤ sizeLine; decide, fun t1 nt1 => ?_⟩
      have s1 : Same H (upd H t1 (.tup [.int 1])) := same_upd nt1
      have ht1 : (upd H t1 (.tup [.int 1])) t1 = some (.tup [.int 1]) := upd_same
      generalize upd H t1 (.tup [.int 1]) = H1 at s1 ht1 ⊢
      refine ⟨by show 0 ≤ sizeLine; decide, fun l1 nl1 => ?_⟩
      have s2 : Same H1 (upd H1 l1 (.lst [])) := same_upd nl1
      have hl1 : (upd H1 l1 (.lst [])) l1 = some (.lst []) := upd_same
      generalize upd H1 l1 (.lst []) = H2 at s2 hl1 ⊢
      refine ⟨by show 2 ≤ sizeLine; decide, fun t2 nt2 => ?_⟩
      have s3 : Same H2 (upd H2 t2 (.tup [.int 1, .int 1])) := same_upd nt2
      have ht2 : (upd H2 t2 (.tup [.int 1, .int 1])) t2 = some (.tup [.int 1, .int 1]) := upd_same
      generalize upd H2 t2 (.tup [.int 1, .int 1]) = H3 at s3 ht2 ⊢
      refine ⟨by show 6 ≤ sizeLine; decide, fun L nL => ?_⟩
      have s4 : Same H3 (upd H3 L (.lst [.non, .bl true, .str "1", .ref t1, .ref l1, .ref t2])) := same_upd nL
      have hL : (upd H3 L (.lst [.non, .bl true, .str "1", .ref t1, .ref l1, .ref t2])) L = some (.lst [.non, .bl true, .str "1", .ref t1, .ref l1, .ref t2]) := upd_same
      generalize upd H3 L (.lst [.non, .bl true, .str "1", .ref t1, .ref l1, .ref t2]) = H4 at s4 hL ⊢
      have s04 := ((s1.trans s2).trans s3).trans s4
      refine ⟨a, L, _, rfl, hp.same s04, SqL.of hL, by show 0 < 6; decide, by show 6 < 1000000000; decide, fun i wv hw => ?_⟩
      obtain ⟨dw, hdw, hnw⟩ : ∃ dw, Dp K H4 wv dw ∧ isN dw = false := by
        have hm := List.mem_of_getElem? hw
        simp only [List.mem_cons, List.not_mem_nil, or_false] at hm
        rcases hm with rfl | rfl | rfl | rfl | rfl | rfl
        · exact ⟨_, .non, rfl⟩
        · exact ⟨_, .bl true, rfl⟩
        · exact ⟨_, .str "1", rfl⟩
        · exact ⟨.tuple [.int 1], .tup (SqT.of (((s2.trans s3).trans s4) _ _ ht1)) (.cons (.int 1) .nil), rfl⟩
        · exact ⟨.list [], .lst (SqL.of ((s3.trans s4) _ _ hl1)) .nil, rfl⟩
        · exact ⟨.tuple [.int 1, .int 1], .tup (SqT.of (s4 _ _ ht2)) (.cons (.int 1) (.cons (.int 1) .nil)), rfl⟩
      -- later
      refine ⟨_, rfl, _, rfl, _, _, rfl, rfl, _, rfl, c0, _, rfl, SqL.of (s04 _ _ hc), fun p np => ?_⟩
      have ecut : cutV (cs.map V.int) (some ((k : Int) + 1)) none = (cs.drop (k + 1)).map V.int := by
        rw [List.map_drop]
        exact cut_from (by omega)
      have s5 : Same H4 (upd H4 p (.lst (cutV (cs.map V.int) (some ((k : Int) + 1)) none))) := same_upd np
      have hp5 : (upd H4 p (.lst (cutV (cs.map V.int) (some ((k : Int) + 1)) none))) p = some (.lst ((cs.drop (k + 1)).map V.int)) := by rw [upd_same, ecut]
      refine ⟨p, rfl, ⟨_, SqL.of hp5⟩, fun L2 nL2 => ?_⟩
      generalize upd H4 p (.lst (cutV (cs.map V.int) (some ((k : Int) + 1)) none)) = H5 at s5 hp5 nL2 ⊢
      have s05 := s04.trans s5
      refine lc_list (K := K) (a := p) (xs := (cs.drop (k + 1)).map V.int) (fun i H' => Same H5 H' ∧ ∃ vs : List V, vs.length = i ∧ H' L2 = some (.lst vs) ∧ ∀ v ∈ vs, v = .non ∨ ∃ i, v = .int i) ⟨same_upd nL2, [], rfl, upd_same, fun _ h => nomatch h⟩ (fun i H' _ p => SqL.of (p.1 _ _ hp5)) ?_ ?_
      · rintro j x H' hx ⟨sm, vs, lv, hL2, hvs⟩
        obtain ⟨z, hz, rfl⟩ : ∃ z, (cs.drop (k + 1))[j]? = some z ∧ x = .int z := by
          rw [List.getElem?_map] at hx
          obtain ⟨z, h1, h2⟩ := Option.map_eq_some_iff.mp hx
          exact ⟨z, h1, h2.symm⟩
        have hj := (List.getElem?_eq_some_iff.mp hz).1
        rw [List.length_drop] at hj
        refine ⟨rfl, yes_ ?_⟩
        refine ⟨_, rfl, _, rfl, _, rfl, by show 3 ≤ sizeLine; decide, fun L3 n3 => ?_⟩
        have s6 : Same H' (upd H' L3 (.lst [.int z, .int z, .non])) := same_upd n3
        have hL3 : (upd H' L3 (.lst [.int z, .int z, .non])) L3 = some (.lst [.int z, .int z, .non]) := upd_same
        generalize upd H' L3 (.lst [.int z, .int z, .non]) = H6 at s6 hL3 ⊢
        refine ⟨a, L3, _, rfl, hp.same ((s05.trans sm).trans s6), SqL.of hL3, by show 0 < 3; decide, by show 3 < 1000000000; decide, fun i2 v2 hv2 => ?_⟩
        refine ⟨vs, s6 _ _ hL2, size_lt (by omega), same_mut (sm.trans s6) nL2, vs ++ [v2], by rw [List.length_append, lv]; rfl, upd_same, fun v hv => ?_⟩
        rcases List.mem_append.mp hv with hv | hv
        · exact hvs v hv
        · rw [List.mem_singleton.mp hv]
          have hm := List.mem_of_getElem? hv2
          simp only [List.mem_cons, List.not_mem_nil, or_false] at hm
          rcases hm with rfl | rfl | rfl
          · exact .inr ⟨z, rfl⟩
          · exact .inr ⟨z, rfl⟩
          · exact .inl rfl
      · rintro H6 ⟨sm, vs, lv, hL2, hvs⟩
        rw [List.length_map, List.length_drop] at lv
        have s06 := s05.trans sm
        -- the row
        refine ⟨_, rfl, _, rfl, _, rfl, _, rfl, c0, _, rfl, SqL.of (s06 _ _ hc), fun p1 np1 => ?_⟩
        have ecut2 : cutV (cs.map V.int) none (some (k : Int)) = (cs.take k).map V.int := by
          rw [List.map_take]
          exact cut_to (by omega)
        have s7 : Same H6 (upd H6 p1 (.lst (cutV (cs.map V.int) none (some (k : Int))))) := same_upd np1
        have hp1 : (upd H6 p1 (.lst (cutV (cs.map V.int) none (some (k : Int))))) p1 = some (.lst ((cs.take k).map V.int)) := by rw [upd_same, ecut2]
        generalize upd H6 p1 (.lst (cutV (cs.map V.int) none (some (k : Int)))) = H7 at s7 hp1 ⊢
        refine ⟨p1, _, rfl, .inl (SqL.of hp1), fun p2 np2 => ?_⟩
        have s8 : Same H7 (upd H7 p2 (.lst ((cs.take k).map V.int))) := same_upd np2
        have hp2 : (upd H7 p2 (.lst ((cs.take k).map V.int))) p2 = some (.lst ((cs.take k).map V.int)) := upd_same
        generalize upd H7 p2 (.lst ((cs.take k).map V.int)) = H8 at s8 hp2 ⊢
        refine ⟨_, rfl, by show 1 ≤ sizeLine; decide, fun p3 np3 => ?_⟩
        have s9 : Same H8 (upd H8 p3 (.lst [wv])) := same_upd np3
        have hp3 : (upd H8 p3 (.lst [wv])) p3 = some (.lst [wv]) := upd_same
        generalize upd H8 p3 (.lst [wv]) = H9 at s9 hp3 ⊢
        have lt : ((cs.take k).map V.int).length = k := by rw [List.length_map, List.length_take]; omega
        refine ⟨p2, p3, _, _, rfl, rfl, s9 _ _ hp2, hp3, size_le (by rw [lt]; show _ + 1 ≤ _; omega), fun p4 np4 => ?_⟩
        have s10 : Same H9 (upd H9 p4 (.lst ((cs.take k).map V.int ++ [wv]))) := same_upd np4
        have hp4 : (upd H9 p4 (.lst ((cs.take k).map V.int ++ [wv]))) p4 = some (.lst ((cs.take k).map V.int ++ [wv])) := upd_same
        generalize upd H9 p4 (.lst ((cs.take k).map V.int ++ [wv])) = H10 at s10 hp4 ⊢
        have s610 := ((s7.trans s8).trans s9).trans s10
        refine ⟨_, rfl, p4, L2, _, _, rfl, rfl, hp4, s610 _ _ hL2, size_le (by rw [List.length_append, lt]; show _ + 1 + _ ≤ _; omega), fun p5 np5 => ?_⟩
        have s11 : Same H10 (upd H10 p5 (.lst ((cs.take k).map V.int ++ [wv] ++ vs))) := same_upd np5
        have hp5 : (upd H10 p5 (.lst ((cs.take k).map V.int ++ [wv] ++ vs))) p5 = some (.lst ((cs.take k).map V.int ++ [wv] ++ vs)) := upd_same
        generalize upd H10 p5 (.lst ((cs.take k).map V.int ++ [wv] ++ vs)) = H11 at s11 hp5 ⊢
        have s011 := (s06.trans s610).trans s11
        refine ⟨a, p5, _, rfl, hp.same s011, SqL.of hp5, fun H12 pr sm12 npr hor => ?_⟩
        refine ⟨_, rfl, by show 2 ≤ sizeLine; decide, fun T nT => ?_⟩
        refine q _ T (.ref pr) (nV k) ((s011.trans sm12).trans (same_upd nT)) upd_same (Rw.same (same_upd nT) ?_) (fun z => by cases z)
        have hdw12 : Dp K H12 wv dw := Dp.same ((((s5.trans sm).trans s610).trans s11).trans sm12) hdw
        refine .bad (ds := (cs.take k).map PyData.int ++ [dw] ++ vs.map flatD) rfl (hor.imp SqL.of SqT.of) (DpAll.app (DpAll.app (dpAll_ints _) (.cons hdw12 .nil)) (dp_flat hvs)) ?_ hk ?_ ?_
        · rw [List.length_append, List.length_append, List.length_map, List.length_map, List.length_take]
          show min k cs.length + 1 + vs.length = cs.length
          omega
        · intro j d hj hd
          rw [List.append_assoc, List.getElem?_append_left (by rw [List.length_map, List.length_take]; omega), List.getElem?_map] at hd
          obtain ⟨z, _, rfl⟩ := Option.map_eq_some_iff.mp hd
          rfl
        · intro d hd
          have l1 : ((cs.take k).map PyData.int).length = k := by rw [List.length_map, List.length_take]; omega
          rw [List.append_assoc, List.getElem?_append_right (by omega), l1, Nat.sub_self] at hd
          have : dw = d := Option.some.inj hd
          rw [← this]; exact hnw
end
end G3

set_option Elab.async false
set_option linter.all false
set_option maxRecDepth 100000
set_option maxHeartbeats 2000000
namespace G3
open PySem PySem.Spec PyProof.Rows L2
theorem xf_of {prog : Program} {K : PySem.W.Frag} {mg : Str → Option Value} {x : Str} {C fI : Addr} (T : SupX.SupTxt prog K mg x C fI) : XfC K C := ⟨T.ga, T.gg, T.exC, T.hdC⟩
/-- what the two errors' classes are to each other -/
structure ErrC (K : PySem.W.Frag) (mg : Str → Option Value) (CE CB CS : Addr) : Prop where
  g : mg "ChipError" = some (.ref CE)
  free : mg "ValueError" = none
  bb : PySem.W.exmOne K (.ref CB) (.ref CB) = some true
  sb : PySem.W.exmOne K (.ref CS) (.ref CB) = some false
  ss : PySem.W.exmOne K (.ref CS) (.ref CS) = some true
  be : PySem.W.kitOne K (.ref CB) (.ref CE) = some true
  bv : PySem.W.kitOne K (.ref CB) (.type "ValueError") = some true
  se : PySem.W.kitOne K (.ref CS) (.ref CE) = some true
  sv : PySem.W.kitOne K (.ref CS) (.type "ValueError") = some true
def numD : V → PyData
  | .int i => .int i
  | _ => .none
def toldD (cl : Str) (r r2 : V) (cs ns : List Int) (n : Nat) (es : List Pr) : PyData :=
  if r = .bl true then (if cl = "degree" then .tuple [.str "told", .int cs.sum] else if r2 = .bl true then .tuple [.str "told", .tuple ((ledOf n es cs ns).map .int)] else .tuple [.str "script", numD r2, .bool true])
  else .tuple [.str "sum", numD r, .bool true]
theorem Rw.num {K : PySem.W.Frag} {H : Hp} {v r : V} {n : Nat} {ns : List Int} (h : Rw K H v n r ns) (ne : r ≠ .bl true) (K' : PySem.W.Frag) (H' : Hp) : Dp K' H' r (numD r) := by
  cases h with
  | good _ _ _ => exact absurd rfl ne
  | kind _ _ => exact .non
  | long _ _ _ => exact .non
  | bad _ _ _ _ _ _ _ => exact .int _
section
variable {P : Program} {w : World} {K : PySem.W.Frag} {mg : Str → Option Value} {base : Heap} {C : Addr}
abbrev n_law_told : List Str := ["call", "graph", "chips", "script", "wrong"]
abbrev p_law_told : List Str := ["call", "graph", "chips", "script"]
theorem sc_law_told : FnScope n_law_told p_law_told (defScope s_law_told) := ⟨rfl, rfl, rfl, by decide +kernel, rfl, by decide +kernel, by decide +kernel⟩
def spTellL (m : Memo) (K : PySem.W.Frag) (C : Addr) : Sp := fun vs H Q E => ∃ (g kd : Addr) (R : Addr → Prop) (n : Nat) (es : List Pr) (cl : Str) (v r v2 r2 : V) (cs ns : List Int), vs = [.str cl, .ref g, v, v2] ∧ Gr m H C g kd R n es ∧ Rw K H v n r cs ∧ (cl = "degree" ∨ cl = "fired" ∧ (r = .bl true → Rw K H v2 n r2 ns)) ∧
  ∀ (H' : Hp) (R' : Addr → Prop) (x : V), But (· = kd) H H' → Gr m H' C g kd R' n es → (∀ x, R x → R' x) → (∀ x, R' x → R x ∨ H x = none) → (cl = "degree" ∨ r ≠ .bl true ∨ r2 ≠ .bl true → Same H H') → Dp K H' x (toldD cl r r2 cs ns n es) → Q x H'
theorem ok_told {m : Memo} {CE CB CS fB fS : Addr} (D : DefAt K mg "_law_told" "_law_told" s_law_told) (B : Bt mg) (TB : SupX.SupTxt P K mg "BadSum" CB fB) (TS : SupX.SupTxt P K mg "BadScript" CS fS) (EC : ErrC K mg CE CB CS)
    (h_degree : Has P w K mg base (L2.CX P w) 3 "degree" p_degree (spDegree m K C CB)) (h_fired : Has P w K mg base (L2.CX P w) 4 "fired" p_fired (spFired m K C CB CS)) : Has P w K mg base CX0 5 "_law_told" p_law_told (spTellL m K C) := by
  refine has_of D sc_law_told (fun _ _ _ _ _ _ us hl => match us, hl with | [_, _, _, _], _ => rfl) (fun vs H Q E h => ?_) (fun f cdv A outer s H vs Q E hr h => ?_)
  · obtain ⟨g, kd, R, n, es, cl, v, r, v2, r2, cs, ns, rfl, _⟩ := h
    rfl
  · obtain ⟨g, kd, R, n, es, cl, v, r, v2, r2, cs, ns, rfl, gr, hv, hcl, q⟩ := h
    refine ⟨_, (pss_one (ps_try_mas rfl rfl sc_law_told.nd (i := 4) rfl rfl takes0 (fun W pn xe tk po => (pss_cons (ps_if (pt_cmpR op_eq (pv 0) pe_str (nomark _)) (pss_one (ps_ret (pe_tup (pa_cons pe_str (pa_cons (pe_hS h_degree hr (fun σ => passAt tk σ) (pa_cons (pv 1) (pa_cons (pv 2) pa_nil))) pa_nil))))) pss_nil)
  (pss_one (ps_ret (pe_tup (pa_cons pe_str (pa_cons (pe_hS h_fired hr (fun σ => passAt tk σ) (pa_cons (pv 1) (pa_cons (pv 2) (pa_cons (pv 3) pa_nil)))) pa_nil))))))) (.cons ⟨rfl, by decide, .inl TB.gC⟩ (fun a oe cls d pn hz hf => (pss_one (ps_ret (pe_tup (pa_cons pe_str (pa_cons (pe_xf (xf_of TB) TB.noN hz hf (pv 4)) (pa_cons (pe_and (pe_callB (call_isT (K := K) rfl hz) rfl B.isinstance (by decide +kernel) (pa_cons (pv 4) (pa_cons (pe_glob (v := .ref CE) rfl EC.g rfl) pa_nil))) (pe_one (pe_callB (call_isT (K := K) rfl hz) rfl B.isinstance (by decide +kernel) (pa_cons (pv 4) (pa_cons (pe_bltn (v := .ty "ValueError") (u := .type "ValueError") rfl EC.free (by decide +kernel) rfl) pa_nil))))) pa_nil))))))) (.cons ⟨rfl, by decide, .inl TS.gC⟩ (fun a oe cls d pn hz hf => (pss_one (ps_ret (pe_tup (pa_cons pe_str (pa_cons (pe_xf (xf_of TS) TS.noN hz hf (pv 4)) (pa_cons (pe_and (pe_callB (call_isT (K := K) rfl hz) rfl B.isinstance (by decide +kernel) (pa_cons (pv 4) (pa_cons (pe_glob (v := .ref CE) rfl EC.g rfl) pa_nil))) (pe_one (pe_callB (call_isT (K := K) rfl hz) rfl B.isinstance (by decide +kernel) (pa_cons (pv 4) (pa_cons (pe_bltn (v := .ty "ValueError") (u := .type "ValueError") rfl EC.free (by decide +kernel) rfl) pa_nil))))) pa_nil))))))) .nil)))), ?_⟩
    refine ⟨_, rfl, rfl, _, rfl, ifD (fun hd => ?_) (fun hd => ?_)⟩
    · have hd : cl = "degree" := by injection hd
      refine ⟨_, rfl, _, rfl, g, kd, R, n, es, v, r, cs, rfl, gr, hv, fun H' sm e => ?_, fun H' l sm nl ne hx => ?_⟩
      · refine ⟨by show 2 ≤ sizeLine; decide, fun T nT => ?_⟩
        have s2 := sm.trans (same_upd (o := .tup [.str "told", .int cs.sum]) nT)
        refine q _ R _ (Same.but s2) (gr.same s2) (fun _ r => r) (fun _ r => .inl r) (fun _ => s2) ?_
        unfold toldD
        rw [if_pos e, if_pos hd]
        exact .tup (SqT.of upd_same) (.cons (.str "told") (.cons (.int _) .nil))
      · refine ⟨_, EC.bb, fun _ a na => ?_, fun z => nomatch z⟩
        refine ⟨_, rfl, rfl, rfl, l, _, r, rfl, hx, rfl, ?_⟩
        refine ⟨_, rfl, .ref CE, .ref CE, rfl, fun u h => h, EC.be, _, rfl, iteT ?_⟩
        refine ⟨_, rfl, .ty "ValueError", .type "ValueError", rfl, fun u h => h, EC.bv, ?_⟩
        refine ⟨by show 3 ≤ sizeLine; decide, fun T nT => ?_⟩
        have s2 := sm.trans (same_upd (o := .tup [.str "sum", r, .bl true]) nT)
        refine q _ R _ (Same.but s2) (gr.same s2) (fun _ r => r) (fun _ r => .inl r) (fun _ => s2) ?_
        unfold toldD
        rw [if_neg ne]
        exact .tup (SqT.of upd_same) (.cons (.str "sum") (.cons (hv.num ne _ _) (.cons (.bl true) .nil)))
    · have hd : cl ≠ "degree" := fun z => hd (by rw [z])
      obtain ⟨rfl, hv2⟩ := hcl.resolve_left hd
      refine ⟨_, rfl, _, rfl, _, rfl, g, kd, R, n, es, v, r, v2, r2, cs, ns, rfl, gr, hv, hv2, fun H' R' L e e2 bt gr' hr1 hr2 nL nRL hL => ?_, fun H' l sm nl ne hx => ?_, fun H' l sm nl e ne hx => ?_⟩
      · refine ⟨by show 2 ≤ sizeLine; decide, fun T nT => ?_⟩
        have s2 : Same H' (upd H' T (.tup [.str "told", .ref L])) := same_upd nT
        refine q _ R' _ (bt.trans (Same.but s2)) (gr'.same s2) hr1 hr2 (fun z => z.elim (fun z => absurd z hd) fun z => z.elim (fun z => absurd e z) fun z => absurd e2 z) ?_
        unfold toldD
        rw [if_pos e, if_neg hd, if_pos e2]
        exact .tup (SqT.of upd_same) (.cons (.str "told") (.cons (.tup (SqT.of (s2 _ _ hL)) (dpAll_ints _)) .nil))
      · refine ⟨_, EC.bb, fun _ a na => ?_, fun z => nomatch z⟩
        refine ⟨_, rfl, rfl, rfl, l, _, r, rfl, hx, rfl, ?_⟩
        refine ⟨_, rfl, .ref CE, .ref CE, rfl, fun u h => h, EC.be, _, rfl, iteT ?_⟩
        refine ⟨_, rfl, .ty "ValueError", .type "ValueError", rfl, fun u h => h, EC.bv, ?_⟩
        refine ⟨by show 3 ≤ sizeLine; decide, fun T nT => ?_⟩
        have s2 := sm.trans (same_upd (o := .tup [.str "sum", r, .bl true]) nT)
        refine q _ R _ (Same.but s2) (gr.same s2) (fun _ r => r) (fun _ r => .inl r) (fun _ => s2) ?_
        unfold toldD
        rw [if_neg ne]
        exact .tup (SqT.of upd_same) (.cons (.str "sum") (.cons (hv.num ne _ _) (.cons (.bl true) .nil)))
      · refine ⟨_, EC.sb, fun z => (nomatch z), fun _ => ⟨_, EC.ss, fun _ a na => ?_, fun z => nomatch z⟩⟩
        refine ⟨_, rfl, rfl, rfl, l, _, r2, rfl, hx, rfl, ?_⟩
        refine ⟨_, rfl, .ref CE, .ref CE, rfl, fun u h => h, EC.se, _, rfl, iteT ?_⟩
        refine ⟨_, rfl, .ty "ValueError", .type "ValueError", rfl, fun u h => h, EC.sv, ?_⟩
        refine ⟨by show 3 ≤ sizeLine; decide, fun T nT => ?_⟩
        have s2 := sm.trans (same_upd (o := .tup [.str "script", r2, .bl true]) nT)
        refine q _ R _ (Same.but s2) (gr.same s2) (fun _ r => r) (fun _ r => .inl r) (fun _ => s2) ?_
        unfold toldD
        rw [if_pos e, if_neg hd, if_neg ne]
        exact .tup (SqT.of upd_same) (.cons (.str "script") (.cons ((hv2 e).num ne _ _) (.cons (.bl true) .nil)))
end
end G3

set_option Elab.async false
set_option linter.all false
set_option maxRecDepth 100000
set_option maxHeartbeats 1000000
namespace G3
open PySem PySem.Spec PyProof.Rows L2
/-! ## plain laws of sums -/
def sumR (n : Nat) (f : Nat → Int) : Int := ((List.range n).map f).sum
theorem sum_snoc (l : List Int) (x : Int) : (l ++ [x]).sum = l.sum + x := by
  induction l with
  | nil => show x + 0 = 0 + x; omega
  | cons a l ih => rw [List.cons_append, List.sum_cons, List.sum_cons, ih]; omega
theorem sumR_zero (f : Nat → Int) : sumR 0 f = 0 := rfl
theorem sumR_succ (n : Nat) (f : Nat → Int) : sumR (n + 1) f = sumR n f + f n := by
  unfold sumR
  rw [List.range_succ, List.map_append]
  exact sum_snoc _ _
theorem sumR_congr {n : Nat} {f g : Nat → Int} (h : ∀ i, i < n → f i = g i) : sumR n f = sumR n g := by
  induction n with
  | zero => rfl
  | succ n ih => rw [sumR_succ, sumR_succ, ih fun i hi => h i (by omega), h n (by omega)]
theorem sumR_add (n : Nat) (f g : Nat → Int) : sumR n (fun i => f i + g i) = sumR n f + sumR n g := by
  induction n with
  | zero => rfl
  | succ n ih => rw [sumR_succ, sumR_succ, sumR_succ, ih]; omega
theorem sumR_sub (n : Nat) (f g : Nat → Int) : sumR n (fun i => f i - g i) = sumR n f - sumR n g := by
  induction n with
  | zero => rfl
  | succ n ih => rw [sumR_succ, sumR_succ, sumR_succ, ih]; omega
theorem sumR_neg (n : Nat) (f : Nat → Int) : sumR n (fun i => - f i) = - sumR n f := by
  induction n with
  | zero => rfl
  | succ n ih => rw [sumR_succ, sumR_succ, ih]; omega
theorem sumR_none (n : Nat) : sumR n (fun _ => 0) = 0 := by
  induction n with
  | zero => rfl
  | succ n ih => rw [sumR_succ, ih]; rfl
theorem sumR_const (n : Nat) (c : Int) : sumR n (fun _ => c) = n * c := by
  induction n with
  | zero => simp [sumR_zero]
  | succ n ih =>
    rw [sumR_succ, ih, Int.natCast_succ, Int.add_mul, Int.one_mul]
theorem sumR_swap (n m : Nat) (f : Nat → Nat → Int) : sumR n (fun i => sumR m fun j => f i j) = sumR m (fun j => sumR n fun i => f i j) := by
  induction n with
  | zero => rw [sumR_zero]; exact (sumR_none m).symm
  | succ n ih =>
    rw [sumR_succ, ih, ← sumR_add]
    exact sumR_congr fun j _ => (sumR_succ n fun i => f i j).symm
theorem sumR_delta (n a : Nat) (c : Int) (h : a < n) : sumR n (fun u => if u = a then c else 0) = c := by
  induction n with
  | zero => omega
  | succ n ih =>
    rw [sumR_succ]
    by_cases e : a = n
    · subst e
      have : sumR a (fun u => if u = a then c else 0) = 0 := by
        rw [sumR_congr (g := fun _ => 0) fun i hi => if_neg (by omega)]
        exact sumR_none a
      rw [this, if_pos rfl]; omega
    · rw [ih (by omega), if_neg (fun z => e z.symm)]; omega
theorem msum_R (m : Nat → Nat) (n : Nat) (f : Nat → Int) : msum m n f = sumR n fun u => (m u : Int) * f u := rfl
theorem mult_symm (es : List Pr) (i u : Nat) : mult es i u = mult es u i := Nat.add_comm _ _
theorem mult_perm {es es' : List Pr} (h : es'.Perm es) (i u : Nat) : mult es' i u = mult es i u := by
  unfold mult
  rw [h.count_eq, h.count_eq]
/-- nothing is lost -/
theorem sent_zero (n : Nat) (es : List Pr) (s : Nat → Int) : sumR n (sentOf n es s) = 0 := by
  have e : sumR n (sentOf n es s) = sumR n fun i => sumR n fun u => (mult es i u : Int) * (s i - s u) := rfl
  have h : sumR n (sentOf n es s) = - sumR n (sentOf n es s) := by
    conv => lhs; rw [e, sumR_swap]
    rw [e, ← sumR_neg]
    refine sumR_congr fun i _ => ?_
    rw [← sumR_neg]
    refine sumR_congr fun u _ => ?_
    rw [mult_symm, ← Int.mul_neg]
    congr 1
    omega
  omega
theorem led_len (n : Nat) (es : List Pr) (cs ns : List Int) : (ledOf n es cs ns).length = n := by unfold ledOf; simp
theorem led_get (n : Nat) (es : List Pr) (cs ns : List Int) {i : Nat} (h : i < n) : (ledOf n es cs ns).getD i 0 = cs.getD i 0 - sentOf n es (fun i => ns.getD i 0) i := by
  unfold ledOf
  rw [List.getD_eq_getElem?_getD, List.getElem?_map, List.getElem?_range h]; rfl
theorem list_of (cs : List Int) : cs = (List.range cs.length).map fun i => cs.getD i 0 := by
  apply List.ext_getElem?
  intro i
  by_cases h : i < cs.length
  · rw [List.getElem?_map, List.getElem?_range h, List.getElem?_eq_getElem h]
    show some cs[i] = some (cs.getD i 0)
    rw [List.getD_eq_getElem?_getD, List.getElem?_eq_getElem h]; rfl
  · rw [List.getElem?_eq_none (by omega), List.getElem?_eq_none (by rw [List.length_map, List.length_range]; omega)]
theorem sum_list (cs : List Int) : cs.sum = sumR cs.length fun i => cs.getD i 0 := by
  unfold sumR
  rw [← list_of]
theorem led_sum {n : Nat} (es : List Pr) {cs : List Int} (ns : List Int) (h : cs.length = n) : (ledOf n es cs ns).sum = cs.sum := by
  subst h
  rw [sum_list, led_len, sumR_congr fun i hi => led_get _ es cs ns hi, sumR_sub, sent_zero, ← sum_list]
  omega
theorem sent_neg (n : Nat) (es : List Pr) (ns : List Int) (i : Nat) : sentOf n es (fun i => (ns.map fun x => -x).getD i 0) i = - sentOf n es (fun i => ns.getD i 0) i := by
  have g : ∀ j, (ns.map fun x => -x).getD j 0 = - ns.getD j 0 := fun j => by
    rw [List.getD_eq_getElem?_getD, List.getD_eq_getElem?_getD, List.getElem?_map]
    cases ns[j]? <;> rfl
  show msum _ _ _ = - msum _ _ _
  rw [msum_R, msum_R, ← sumR_neg]
  refine sumR_congr fun u _ => ?_
  show (mult es i u : Int) * ((ns.map fun x => -x).getD i 0 - (ns.map fun x => -x).getD u 0) = -((mult es i u : Int) * (ns.getD i 0 - ns.getD u 0))
  rw [g, g, ← Int.mul_neg]
  congr 1
  omega
/-- back by the opposite -/
theorem led_back {n : Nat} (es : List Pr) {cs : List Int} (ns : List Int) (h : cs.length = n) : ledOf n es (ledOf n es cs ns) (ns.map fun x => -x) = cs := by
  subst h
  conv => rhs; rw [list_of cs]
  show (List.range cs.length).map _ = _
  refine List.map_congr_left fun i hi => ?_
  have hi := List.mem_range.mp hi
  rw [led_get _ es cs ns hi, sent_neg]
  omega
theorem led_perm {es es' : List Pr} (h : es'.Perm es) (n : Nat) (cs ns : List Int) : ledOf n es' cs ns = ledOf n es cs ns := by
  unfold ledOf sentOf msum
  refine List.map_congr_left fun i _ => ?_
  congr 1
  congr 1
  refine List.map_congr_left fun u _ => ?_
  rw [mult_perm h]
theorem val_perm {es es' : List Pr} (h : es'.Perm es) (n i : Nat) : valOf n es' i = valOf n es i := by
  unfold valOf msum
  congr 1
  refine List.map_congr_left fun u _ => ?_
  rw [mult_perm h]
theorem count_all (n : Nat) : ∀ es : List Pr, (∀ e ∈ es, e.1 < n ∧ e.2 < n) → sumR n (fun i => sumR n fun u => (es.count (i, u) : Int)) = es.length
  | [], _ => by
    rw [sumR_congr (g := fun _ => 0) fun i _ => by
      show sumR n (fun u => (0 : Int)) = 0
      exact sumR_none n]
    exact sumR_none n
  | e :: es, h => by
    obtain ⟨h1, h2⟩ := h e (List.mem_cons_self ..)
    have ih := count_all n es fun x hx => h x (List.mem_cons_of_mem _ hx)
    have d : sumR n (fun i => sumR n fun u => if e = (i, u) then (1 : Int) else 0) = 1 := by
      rw [sumR_congr (g := fun i => if i = e.1 then (1 : Int) else 0) fun i _ => ?_]
      · exact sumR_delta n e.1 1 h1
      · by_cases c : i = e.1
        · rw [if_pos c, sumR_congr (g := fun u => if u = e.2 then (1 : Int) else 0) fun u _ => ?_]
          · exact sumR_delta n e.2 1 h2
          · by_cases d : u = e.2
            · rw [if_pos d, if_pos (by rw [c, d])]
            · rw [if_neg d, if_neg (fun z => d (by rw [z]))]
        · rw [if_neg c, sumR_congr (g := fun _ => 0) fun u _ => if_neg (fun z => c (by rw [z]))]
          exact sumR_none n
    rw [sumR_congr (g := fun i => (sumR n fun u => (es.count (i, u) : Int)) + sumR n fun u => if e = (i, u) then (1 : Int) else 0) fun i _ => ?_, sumR_add, ih, d, List.length_cons, Int.natCast_succ]
    rw [← sumR_add]
    refine sumR_congr fun u _ => ?_
    rw [List.count_cons]
    by_cases c : e = (i, u)
    · rw [if_pos c, if_pos (by simpa using c), Int.natCast_add]; rfl
    · rw [if_neg c, if_neg (by simpa using c)]; rfl
/-- each edge counts twice -/
theorem val_sum {n : Nat} {es : List Pr} (h : ∀ e ∈ es, e.1 < n ∧ e.2 < n) : sumR n (valOf n es) = 2 * es.length := by
  have e : sumR n (valOf n es) = sumR n fun i => (sumR n fun u => (es.count (i, u) : Int)) + sumR n fun u => (es.count (u, i) : Int) := by
    refine sumR_congr fun i _ => ?_
    rw [← sumR_add]
    show msum _ _ _ = _
    rw [msum_R]
    refine sumR_congr fun u _ => ?_
    unfold mult
    rw [Int.mul_one, Int.natCast_add]
  rw [e, sumR_add, count_all n es h, sumR_swap, count_all n es h]
  omega
theorem can_sum {n : Nat} {es : List Pr} (h : ∀ e ∈ es, e.1 < n ∧ e.2 < n) : ((List.range n).map fun i => valOf n es i - 2).sum = 2 * ((es.length : Int) - n) := by
  show sumR n (fun i => valOf n es i - 2) = _
  rw [sumR_sub, val_sum h, sumR_const]
  omega
end G3

set_option Elab.async false
set_option linter.all false
set_option maxRecDepth 100000
set_option maxHeartbeats 4000000
namespace G3
open PySem PySem.Spec PyProof.Rows L2
/-! ### two rows told -/
theorem int_len {x : Int} (h : x.natAbs < 2 ^ 1300) : (PyData.shown (.int x)).length ≤ 1301 ∧ x.natAbs.log2 < 1920 := by
  have h1 : x.natAbs.log2 < 1300 := PySem.Flt.log2_lt_of (by decide) h
  refine ⟨?_, Nat.lt_trans h1 (by decide)⟩
  have e := int_text_length_le (k := 1300) (by decide) h1
  show (Str.ofString (toString x)).length ≤ 1301
  rw [PySem.ofString_length]
  exact e
theorem piled_ints : ∀ {ns : List Int}, (∀ x ∈ ns, x.natAbs < 2 ^ 1300) → piled (PyData.shownAll (ns.map PyData.int)) ≤ ns.length * 1303
  | [], _ => Nat.le_refl _
  | x :: ns, h => by
    have ih := piled_ints (ns := ns) fun y hy => h y (List.mem_cons_of_mem _ hy)
    have e := (int_len (h x (List.mem_cons_self ..))).1
    rw [List.map_cons]
    show piled (PyData.shown (.int x) :: PyData.shownAll (ns.map PyData.int)) ≤ _
    rw [piled_cons, List.length_cons, Nat.add_mul]
    omega
theorem noDict_ints : ∀ ns : List Int, PyData.hasDictAll (ns.map PyData.int) = false
  | [] => by simp [PyData.hasDictAll]
  | x :: ns => by
    rw [List.map_cons]
    simp only [PyData.hasDictAll, noDict_ints ns, PyData.hasDict, Bool.or_self]
theorem depth_ints : ∀ ns : List Int, PyData.depthAll (ns.map PyData.int) ≤ 3
  | [] => by simp [PyData.depthAll]
  | x :: ns => by
    have ih := depth_ints ns
    rw [List.map_cons]
    simp only [PyData.depthAll, PyData.depth]
    omega
/-- a list or tuple of numbers -/
def rowD (l : Bool) (ns : List Int) : PyData := if l then .list (ns.map .int) else .tuple (ns.map .int)
theorem row_text {l : Bool} {ns : List Int} (h : ∀ x ∈ ns, x.natAbs < 2 ^ 1300) (hl : ns.length ≤ 64) : (rowD l ns).shown.length ≤ 100000 ∧ (rowD l ns).showable = true ∧ (rowD l ns).hasDict = false ∧ (rowD l ns).depth ≤ 10 := by
  have p := piled_ints h
  have s := PyData.showableAll_ints ns fun n hn => (int_len (h n hn)).2
  have d := noDict_ints ns
  have e := depth_ints ns
  unfold rowD
  cases l with
  | true =>
    rw [if_pos rfl]
    refine ⟨?_, by simpa [PyData.showable] using s, by simpa [PyData.hasDict] using d, by simp only [PyData.depth]; omega⟩
    have := list_text (PyData.shownAll (ns.map PyData.int))
    simp only [PyData.shown]
    omega
  | false =>
    rw [if_neg (by decide)]
    refine ⟨?_, by simpa [PyData.showable] using s, by simpa [PyData.hasDict] using d, by simp only [PyData.depth]; omega⟩
    have := fmt_text (PyData.shownAll (ns.map PyData.int))
    simp only [PyData.shown]
    omega
theorem rows_text {l1 l2 : Bool} {cs ns : List Int} (h1 : ∀ x ∈ cs, x.natAbs < 2 ^ 1300) (h2 : ∀ x ∈ ns, x.natAbs < 2 ^ 1300) (n1 : cs.length ≤ 64) (n2 : ns.length ≤ 64) :
    (PyData.tuple [rowD l1 cs, rowD l2 ns]).showable = true ∧ (PyData.tuple [rowD l1 cs, rowD l2 ns]).hasDict = false ∧ (PyData.tuple [rowD l1 cs, rowD l2 ns]).depth ≤ 60 ∧ (PyData.tuple [rowD l1 cs, rowD l2 ns]).shown.length ≤ sizeLine := by
  obtain ⟨a1, a2, a3, a4⟩ := row_text (l := l1) h1 n1
  obtain ⟨b1, b2, b3, b4⟩ := row_text (l := l2) h2 n2
  refine ⟨by simp [PyData.showable, PyData.showableAll, a2, b2], by simp [PyData.hasDict, PyData.hasDictAll, a3, b3], by simp only [PyData.depth, PyData.depthAll]; omega, ?_⟩
  have := fmt_text [(rowD l1 cs).shown, (rowD l2 ns).shown]
  rw [piled_cons, piled_cons, piled_nil] at this
  show (tupleText [(rowD l1 cs).shown, (rowD l2 ns).shown]).length ≤ sizeLine
  rw [sizeLine_eq]
  omega
end G3

set_option Elab.async false
set_option linter.all false
set_option maxRecDepth 100000
set_option maxHeartbeats 4000000
namespace G3
open PySem PySem.Spec PyProof.Rows L2
/-- what the graphs of this law keep -/
def cbKey : L2.Key := Sum.inr ("chip beside" : Str)
def memo1 : Memo where
  keys := [cbKey]
  M := fun H R n es k v => k = cbKey → BesAt H R v n es
  few := by show 1 ≤ 1000; decide
  stay := fun b hr h e => (h e).stay b hr
theorem memo1_b : MemoB memo1 := ⟨List.mem_cons_self (a := cbKey) (l := []), fun H R n es v => ⟨fun h => (h : cbKey = cbKey → BesAt H R v n es) rfl, fun h => (fun _ => h : cbKey = cbKey → BesAt H R v n es)⟩⟩
theorem new_same {H : Hp} {C x dx : Addr} (nx : H x = none) (ndx : H dx = none) : Same H (upd (upd H dx (.own x)) x (.ins C dx [])) := fun b o e => by
  rw [upd_ne (ne_of_none e nx), upd_ne (ne_of_none e ndx)]; exact e
theorem made_graph (m : Memo) {H H' : Hp} {C x dx kd : Addr} {n : Nat} {es es' : List Pr} (good : Good n es) (hn1 : 1 ≤ n) (hn : n ≤ 64) (he : es.length ≤ 400) (nx : H x = none) (ndx : H dx = none)
    (bt : But (· = x) (upd (upd H dx (.own x)) x (.ins C dx [])) H') (ga : GrAt H' C x n es' kd) (hp : es'.Perm es) (hx : Lex es') (hk : H' kd = some (.dK [])) : Same H H' ∧ ∃ R, Gr m H' C x kd R n es' := by
  have s1 := new_same (C := C) nx ndx
  refine ⟨fun b o e => bt _ _ (ne_of_none e nx) (s1 _ _ e), ?_⟩
  obtain ⟨d, eT, vs, g1, g2, g3⟩ := ga
  refine ⟨fun y => y = x ∨ y = eT ∨ V.ref y ∈ vs, ⟨d, eT, vs, g1, g2, g3, .inl rfl, .inr (.inl rfl), fun t ht => .inr (.inr ht)⟩, good.perm hp, hn1, hn, by rw [hp.length_eq]; exact he, hx, fun y hy => ?_, [], hk, List.nodup_nil, fun _ _ h => nomatch h⟩
  rcases hy with rfl | rfl | hy
  · exact ⟨by rw [g1]; exact fun z => (nomatch z), ne_of g1 hk ins_dK⟩
  · exact ⟨by rw [g2]; exact fun z => (nomatch z), ne_of g2 hk dict_ne.2⟩
  · obtain ⟨t, a, b, e1, e2⟩ := g3.mem _ hy
    cases e1
    exact ⟨by rw [e2]; exact fun z => (nomatch z), ne_of e2 hk dict_ne.2⟩
theorem PoolAt.but {H H' : Hp} {a kd : Addr} {kvs : List (L2.Key × V)} (h : PoolAt H a) (b : But (· = kd) H H') (hk : H kd = some (.dK kvs)) : PoolAt H' a := by
  obtain ⟨c, ns, h1, h2, h3⟩ := h
  exact ⟨c, ns, b _ _ (ne_of h1 hk (fun z => by cases z)) h1, b.lst hk h2, h3⟩
/-- a row of numbers, kept as it is -/
def RowAt (H : Hp) (p : Addr) (ns : List Int) : Prop := H p = some (.lst (ns.map V.int)) ∨ H p = some (.tup (ns.map V.int))
theorem RowAt.same {H H' : Hp} {p : Addr} {ns : List Int} (h : RowAt H p ns) (e : Same H H') : RowAt H' p ns := h.imp (e _ _) (e _ _)
theorem RowAt.but {H H' : Hp} {p kd : Addr} {ns : List Int} {kvs : List (L2.Key × V)} (h : RowAt H p ns) (b : But (· = kd) H H') (hk : H kd = some (.dK kvs)) : RowAt H' p ns := h.imp (b.lst hk) (b.tup hk)
theorem RowAt.rw {K : PySem.W.Frag} {H : Hp} {p : Addr} {ns : List Int} {n : Nat} (h : RowAt H p ns) (hl : ns.length = n) : Rw K H (.ref p) n (.bl true) ns := .good rfl (h.imp SqL.of SqT.of) hl
theorem RowAt.dp {H : Hp} {p : Addr} {ns : List Int} (h : RowAt H p ns) : ∃ l, ∀ (K : PySem.W.Frag) (H' : Hp), (∀ o, H p = some o → H' p = some o) → Dp K H' (.ref p) (rowD l ns) := by
  rcases h with h | h
  · exact ⟨true, fun K H' e => .lst (SqL.of (e _ h)) (dpAll_ints ns)⟩
  · exact ⟨false, fun K H' e => .tup (SqT.of (e _ h)) (dpAll_ints ns)⟩
theorem Gr.kd {m : Memo} {H : Hp} {C g kd : Addr} {R : Addr → Prop} {n : Nat} {es : List Pr} (h : Gr m H C g kd R n es) : ∃ kvs, H kd = some (.dK kvs) := by
  obtain ⟨_, _, _, _, _, _, _, kvs, k, _⟩ := h
  exact ⟨kvs, k⟩
/-- what stands while the law asks -/
structure SoF (m : Memo) (H : Hp) (C a g kd c0 q0 p1 p2 : Addr) (R : Addr → Prop) (n : Nat) (es : List Pr) (cs ns : List Int) : Prop where
  gr : Gr m H C g kd R n es
  hp : PoolAt H a
  hc : H c0 = some (.lst (cs.map V.int))
  hq : H q0 = some (.lst (ns.map V.int))
  h1 : RowAt H p1 cs
  h2 : RowAt H p2 ns
theorem SoF.same {m : Memo} {H H' : Hp} {C a g kd c0 q0 p1 p2 : Addr} {R : Addr → Prop} {n : Nat} {es : List Pr} {cs ns : List Int} (h : SoF m H C a g kd c0 q0 p1 p2 R n es cs ns) (e : Same H H') : SoF m H' C a g kd c0 q0 p1 p2 R n es cs ns :=
  ⟨h.gr.same e, h.hp.same e, e _ _ h.hc, e _ _ h.hq, h.h1.same e, h.h2.same e⟩
theorem SoF.but {m : Memo} {H H' : Hp} {C a g kd c0 q0 p1 p2 : Addr} {R R' : Addr → Prop} {n : Nat} {es : List Pr} {cs ns : List Int} (h : SoF m H C a g kd c0 q0 p1 p2 R n es cs ns) (b : But (· = kd) H H') (gr : Gr m H' C g kd R' n es) : SoF m H' C a g kd c0 q0 p1 p2 R' n es cs ns := by
  obtain ⟨kvs, hk⟩ := h.gr.kd
  exact ⟨gr, h.hp.but b hk, b.lst hk h.hc, b.lst hk h.hq, h.h1.but b hk, h.h2.but b hk⟩
section
variable {P : Program} {w : World} {K : PySem.W.Frag} {mg : Str → Option Value} {base : Heap} {C CB CS : Addr}
abbrev n_law_so : List Str := ["pool", "n", "edges", "graph", "table", "chips", "script", "first", "second", "kept", "due", "spoilt", "number", "wrong", "other", "one"]
abbrev p_law_so : List Str := ["pool", "n", "edges"]
theorem sc_law_so : FnScope n_law_so p_law_so (defScope s_law_so) := ⟨rfl, rfl, rfl, by decide +kernel, rfl, by decide +kernel, by decide +kernel⟩
abbrev n_law : List Str := ["script", "pool", "turn", "n", "edges", "table", "told", "line"]
abbrev p_law : List Str := ["script"]
theorem sc_law : FnScope n_law p_law (defScope s_law) := ⟨rfl, rfl, rfl, by decide +kernel, rfl, by decide +kernel, by decide +kernel⟩
def spSo : Sp := fun vs H Q _ => ∃ (a l : Addr) (n : Nat) (es : List Pr), vs = [.ref a, nV n, .ref l] ∧ PoolAt H a ∧ PLst H l es ∧ Good n es ∧ 1 ≤ n ∧ n ≤ 64 ∧ es.length ≤ 400 ∧ ∀ H', Same H H' → Q (.bl true) H'
theorem ok_so (D : DefAt K mg "_law_so" "_law_so" s_law_so) (B : Bt mg) (mk_Graph : HasMk P w K mg base CX0 3 "Graph" C p_Graph___init__ (spGInit C)) (h_law_table : Has P w K mg base CX0 1 "_law_table" p_law_table spTable)
    (h_law_great_chips : Has P w K mg base CX0 4 "_law_great_chips" p_law_great_chips spGreat) (h_law_given : Has P w K mg base CX0 3 "_law_given" p_law_given (spGiven K)) (h_law_led : Has P w K mg base CX0 1 "_law_led" p_law_led (spLedT K))
    (h_law_same : Has P w K mg base CX0 4 "_law_same" p_law_same (spSame K 3)) (h_law_told : Has P w K mg base CX0 5 "_law_told" p_law_told (spTellL memo1 K C)) (h_fired : Has P w K mg base (L2.CX P w) 4 "fired" p_fired (spFired memo1 K C CB CS))
    (h_law_spoilt_row : Has P w K mg base CX0 4 "_law_spoilt_row" p_law_spoilt_row (spSpoilt K)) (h_law_pick : Has P w K mg base CX0 3 "_law_pick" p_law_pick (spPick K)) : HasG P w K mg base CX0 6 "_law_so" p_law_so spSo := by
  refine hasG_of D sc_law_so (fun _ _ _ _ _ _ us hl => match us, hl with | [_, _, _], _ => rfl) (fun vs H Q E h => ?_) (fun f cdv A outer s H vs Q E hgd hr h => ?_)
  · obtain ⟨a, l, n, es, rfl, _⟩ := h
    rfl
  · obtain ⟨a, l, n, es, rfl, hp, hl, good, hn1, hn, he, q⟩ := h
    have tk : Takes (cxOf CX0 P w K mg base n_law_so "_law_so" (defScope s_law_so) f cdv A outer s H E).nox (fun _ _ _ _ => False) := takes0
    refine ⟨_, (Evl.pss_cut (ps_par (i := 3) (j := 4) rfl sc_law_so.nd rfl rfl (by decide) rfl rfl (pa_cons (pe_makeH mk_Graph hr pass0 (pa_cons (pv 1) (pa_cons (pv 2) pa_nil))) (pa_cons (pe_h h_law_table hr pass0 (pa_cons (pv 1) (pa_cons (pv 2) pa_nil))) pa_nil)) rfl)
  (pss_cons (ps_par (i := 5) (j := 6) rfl sc_law_so.nd rfl rfl (by decide) rfl rfl (pa_cons (pe_h h_law_great_chips hr pass0 (pa_cons (pv 0) (pa_cons (pv 1) (pa_cons pe_int pa_nil)))) (pa_cons (pe_h h_law_great_chips hr pass0 (pa_cons (pv 0) (pa_cons (pv 1) (pa_cons pe_int pa_nil)))) pa_nil)) rfl)
  (Evl.pss_cut (ps_par (i := 7) (j := 8) rfl sc_law_so.nd rfl rfl (by decide) rfl rfl (pa_cons (pe_h h_law_given hr pass0 (pa_cons (pv 0) (pa_cons (pv 5) pa_nil))) (pa_cons (pe_h h_law_given hr pass0 (pa_cons (pv 0) (pa_cons (pv 6) pa_nil))) pa_nil)) rfl)
  (Evl.pss_cut (ps_set (i := 9) sc_law_so.nd rfl (.inl rfl) (pe_callB (call_reprD hgd hr.units) rfl B.repr (by decide +kernel) (pa_cons (pe_tup (pa_cons (pv 7) (pa_cons (pv 8) pa_nil))) pa_nil)))
  (Evl.pss_cut (ps_set (i := 10) sc_law_so.nd rfl (.inl rfl) (pe_callTy (tupK (K := K) rfl) rfl B.tuple (by decide +kernel) (pa_cons (pe_h h_law_led hr pass0 (pa_cons (pv 4) (pa_cons (pv 5) (pa_cons (pv 6) pa_nil)))) pa_nil)))
  (Evl.pss_cut (ps_if (pt_not (pt_val (pe_h h_law_same hr pass0 (pa_cons (pe_h h_law_told hr pass0 (pa_cons pe_str (pa_cons (pv 3) (pa_cons (pv 7) (pa_cons (pv 8) pa_nil))))) (pa_cons (pe_tup (pa_cons pe_str (pa_cons (pv 10) pa_nil))) pa_nil))))) (pss_one (ps_ret pe_bl)) pss_nil)
  (Evl.pss_cut (ps_if (pt_not (pt_val (pe_h h_law_same hr pass0 (pa_cons (pe_tup (pa_cons (pe_h h_law_told hr pass0 (pa_cons pe_str (pa_cons (pv 3) (pa_cons (pv 7) (pa_cons pe_non pa_nil))))) (pa_cons (pe_h h_law_told hr pass0 (pa_cons pe_str (pa_cons (pv 3) (pa_cons (pv 10) (pa_cons pe_non pa_nil))))) pa_nil))) (pa_cons (pe_op op_repT (pe_tup (pa_cons (pe_tup (pa_cons pe_str (pa_cons (pe_callB (sumK (K := K) rfl rfl) rfl B.sum (by decide +kernel) (pa_cons (pv 5) pa_nil)) pa_nil))) pa_nil)) pe_int) pa_nil))))) (pss_one (ps_ret pe_bl)) pss_nil)
  (Evl.pss_cut (ps_if (PW.pt (pw_or (pt_not (pt_val (pe_h h_law_same hr pass0 (pa_cons (pe_hS h_fired hr (fun σ => passAt tk σ) (pa_cons (pv 3) (pa_cons (pv 10) (pa_cons (pe_lc (own := [("one", 15)]) (g := gName 15) (tt := tYes) rfl sc_law_so.nd (piL (K := K) rfl (pv 6)) (blkOk_by (N := n_law_so) (sc := defScope s_law_so) (by decide +kernel)) (fun _ _ _ _ _ => (pg_name (i := 15) sc_law_so.nd rfl (.inl rfl))) (fun _ _ _ _ _ => pts_nil) (fun _ _ _ _ _ => (pe_un un_neg (pv 15)))) pa_nil)))) (pa_cons (pe_callTy (tupK (K := K) rfl) rfl B.tuple (by decide +kernel) (pa_cons (pv 5) pa_nil)) pa_nil))))) (pw_or1 (pt_cmpR op_ne (pe_callB (call_reprD hgd hr.units) rfl B.repr (by decide +kernel) (pa_cons (pe_tup (pa_cons (pv 7) (pa_cons (pv 8) pa_nil))) pa_nil)) (pv 9) (nomark _))))) (pss_one (ps_ret pe_bl)) pss_nil)
  (Evl.pss_cut (ps_asg (pe_h h_law_spoilt_row hr pass0 (pa_cons (pv 0) (pa_cons (pv 5) pa_nil))) (pgT (K := K) (n := 2) rfl rfl (pgs_cons (pg_name (i := 11) sc_law_so.nd rfl (.inl rfl)) (pgs_cons (pg_name (i := 12) sc_law_so.nd rfl (.inl rfl)) pgs_nil))))
  (Evl.pss_cut (ps_asg (pe_h h_law_spoilt_row hr pass0 (pa_cons (pv 0) (pa_cons (pv 6) pa_nil))) (pgT (K := K) (n := 2) rfl rfl (pgs_cons (pg_name (i := 13) sc_law_so.nd rfl (.inl rfl)) (pgs_cons (pg_name (i := 14) sc_law_so.nd rfl (.inl rfl)) pgs_nil))))
  (Evl.pss_cut (ps_if (pt_not (pt_val (pe_h h_law_same hr pass0 (pa_cons (pe_h h_law_told hr pass0 (pa_cons pe_str (pa_cons (pv 3) (pa_cons (pv 11) (pa_cons pe_non pa_nil))))) (pa_cons (pe_tup (pa_cons pe_str (pa_cons (pv 12) (pa_cons pe_bl pa_nil)))) pa_nil))))) (pss_one (ps_ret pe_bl)) pss_nil)
  (Evl.pss_cut (ps_if (pt_not (pt_val (pe_h h_law_same hr pass0 (pa_cons (pe_h h_law_told hr pass0 (pa_cons pe_str (pa_cons (pv 3) (pa_cons (pv 11) (pa_cons (pe_h h_law_pick hr pass0 (pa_cons (pv 0) (pa_cons (pe_lst (pa_cons (pv 13) (pa_cons (pv 6) pa_nil))) pa_nil))) pa_nil))))) (pa_cons (pe_tup (pa_cons pe_str (pa_cons (pv 12) (pa_cons pe_bl pa_nil)))) pa_nil))))) (pss_one (ps_ret pe_bl)) pss_nil)
  (pss_one (ps_ret (pe_h h_law_same hr pass0 (pa_cons (pe_h h_law_told hr pass0 (pa_cons pe_str (pa_cons (pv 3) (pa_cons (pv 7) (pa_cons (pv 13) pa_nil))))) (pa_cons (pe_tup (pa_cons pe_str (pa_cons (pv 14) (pa_cons pe_bl pa_nil)))) pa_nil))))))))))))))))), ?_⟩
    refine ⟨fun σ H2 => ∃ (g kd T : Addr) (R : Addr → Prop) (es1 : List Pr) (as : List Addr), σ = [some (.ref a), some (nV n), some (.ref l), some (.ref g), some (.ref T), none, none, none, none, none, none, none, none, none, none, none] ∧ es1.Perm es ∧ H kd = none ∧ Gr memo1 H2 C g kd R n es1 ∧ Same H H2 ∧ as.length = n ∧ Rows H2 T as (fun v => .lst ((tabLine es n v).map V.int)), ?_, ?_⟩
    · refine ⟨_, rfl, _, rfl, ?_⟩
      intro g dx0 nx0 ndx0 ne0
      obtain ⟨ws, hw1, hw2⟩ := id hl
      have s0 := new_same (C := C) nx0 ndx0
      refine ⟨g, dx0, l, n, ws, es, rfl, upd_same, s0 _ _ hw1, hw2.same s0, good, hn1, hn, he, fun H1 es1 kd bt ga pm hx nk hk => ⟨rfl, ?_⟩⟩
      obtain ⟨s1, R, gr1⟩ := made_graph memo1 good hn1 hn he nx0 ndx0 bt ga pm hx hk
      refine ⟨_, rfl, _, rfl, n, l, es, rfl, hl.same s1, good.1, by omega, by omega, fun H2 T as s2 nT las _ ro => ?_⟩
      exact ⟨_, _, rfl, g, kd, T, R, es1, as, rfl, pm, s0.free nk, gr1.same s2, s1.trans s2, las, ro⟩
    rintro σ H2 ⟨g, kd, T, R, es1, as, rfl, pm, nk0, gr2, s02, las, ro⟩
    have hp2 := hp.same s02
    refine ⟨_, rfl, _, rfl, a, n, 300, rfl, hp2, by omega, fun H3 c0 cs s3 _ hc3 lcs bcs => ?_⟩
    refine ⟨_, rfl, _, rfl, a, n, 300, rfl, hp2.same s3, by omega, fun H4 q0 ns s4 _ hq4 lns bns => ?_⟩
    have s24 := s3.trans s4
    have gr4 := gr2.same s24
    have ro4 := ro.same s24
    have hc4 := s4 _ _ hc3
    have s04 := s02.trans s24
    refine ⟨_, _, rfl, fun σ H2 => ∃ (p1 p2 : Addr), σ = [some (.ref a), some (nV n), some (.ref l), some (.ref g), some (.ref T), some (.ref c0), some (.ref q0), some (.ref p1), some (.ref p2), none, none, none, none, none, none, none] ∧ SoF memo1 H2 C a g kd c0 q0 p1 p2 R n es1 cs ns ∧ Same H H2 ∧ Rows H2 T as (fun v => .lst ((tabLine es n v).map V.int)), ?_, ?_⟩
    · refine ⟨_, rfl, _, rfl, a, c0, _, rfl, hp2.same s24, SqL.of hc4, fun H5 p1 s5 _ h15 => ?_⟩
      refine ⟨_, rfl, _, rfl, a, q0, _, rfl, hp2.same (s24.trans s5), SqL.of (s5 _ _ hq4), fun H6 p2 s6 _ h26 => ?_⟩
      have s46 := s5.trans s6
      exact ⟨_, _, rfl, p1, p2, rfl, ⟨gr4.same s46, hp2.same (s24.trans s46), s46 _ _ hc4, s46 _ _ hq4, RowAt.same h15 s6, h26⟩, s04.trans s46, ro4.same s46⟩
    clear hp2 gr2 s02 ro s3 s4 hc3 hq4 s24 gr4 ro4 hc4 s04
    rintro σ H2 ⟨p1, p2, rfl, F, s0, ro⟩
    have keep1 : (∀ o, H2 p1 = some o → ¬ p1 = kd) ∧ ∀ o, H2 p2 = some o → ¬ p2 = kd := by
      obtain ⟨kvs0, hkd0⟩ := F.gr.kd
      exact ⟨fun o _ => F.h1.elim (fun h => ne_of h hkd0 dict_ne.1) fun h => ne_of h hkd0 dict_ne.2, fun o _ => F.h2.elim (fun h => ne_of h hkd0 dict_ne.1) fun h => ne_of h hkd0 dict_ne.2⟩
    obtain ⟨b1, d1⟩ := F.h1.dp
    obtain ⟨b2, d2⟩ := F.h2.dp
    obtain ⟨t1, t2, t3, t4⟩ := rows_text (l1 := b1) (l2 := b2) bcs bns (by omega) (by omega)
    generalize hD : PyData.tuple [rowD b1 cs, rowD b2 ns] = DD at t1 t2 t3 t4
    -- kept
    refine ⟨fun σ H3 => σ = [some (.ref a), some (nV n), some (.ref l), some (.ref g), some (.ref T), some (.ref c0), some (.ref q0), some (.ref p1), some (.ref p2), some (.str DD.shown), none, none, none, none, none, none] ∧ Same H2 H3, ?_, ?_⟩
    · refine ⟨_, rfl, _, rfl, by show 2 ≤ sizeLine; decide, fun T1 nT1 => ?_⟩
      have s7 : Same H2 (upd H2 T1 (.tup [.ref p1, .ref p2])) := same_upd nT1
      exact ⟨T1, DD, rfl, hD ▸ .tup (SqT.of upd_same) (.cons (d1 K _ (fun o e => s7 _ _ e)) (.cons (d2 K _ fun o e => s7 _ _ e) .nil)), t1, t2, t3, t4, rfl, s7⟩
    rintro σ H3 ⟨rfl, s7⟩
    have F3 := F.same s7
    have ro3 := ro.same s7
    have s03 := s0.trans s7
    -- due
    refine ⟨fun σ H4 => ∃ D0, σ = [some (.ref a), some (nV n), some (.ref l), some (.ref g), some (.ref T), some (.ref c0), some (.ref q0), some (.ref p1), some (.ref p2), some (.str DD.shown), some (.ref D0), none, none, none, none, none] ∧ Same H3 H4 ∧ H4 D0 = some (.tup ((ledOf n es cs ns).map V.int)), ?_, ?_⟩
    · refine ⟨_, rfl, _, rfl, _, rfl, T, c0, q0, as, n, es, cs, ns, rfl, ro3, las, by omega, by omega, F3.hc, F3.hq, lcs, lns, fun H8 L8 s8 nL8 hL8 => ?_⟩
      refine ⟨L8, _, rfl, .inl ⟨SqL.of hL8, fun T8 nT8 => ?_⟩⟩
      exact ⟨T8, rfl, s8.trans (same_upd nT8), upd_same⟩
    rintro σ H4 ⟨D0, rfl, s34, hD0⟩
    have F4 := F3.same s34
    have s04 := s03.trans s34
    have s24 := s7.trans s34
    have eqL : ledOf n es1 cs ns = ledOf n es cs ns := led_perm pm n cs ns
    clear F3 ro3 s03 s7 s34 ro s0
    -- fired
    refine ⟨fun σ H5 => ∃ (R5 : Addr → Prop), σ = [some (.ref a), some (nV n), some (.ref l), some (.ref g), some (.ref T), some (.ref c0), some (.ref q0), some (.ref p1), some (.ref p2), some (.str DD.shown), some (.ref D0), none, none, none, none, none] ∧ But (· = kd) H4 H5 ∧ Gr memo1 H5 C g kd R5 n es1, ?_, ?_⟩
    · refine ⟨_, rfl, _, rfl, _, rfl, g, kd, R, n, es1, "fired", .ref p1, .bl true, .ref p2, .bl true, cs, ns, rfl, F4.gr, F4.h1.rw lcs, .inr ⟨rfl, fun _ => F4.h2.rw lns⟩, fun H5 R5 x bt gr5 hr1 hr2 _ dx => ?_⟩
      obtain ⟨kvs, hkd⟩ := F4.gr.kd
      refine ⟨_, rfl, by show 2 ≤ sizeLine; decide, fun T2 nT2 => ?_⟩
      have s5 : Same H5 (upd H5 T2 (.tup [.str "told", .ref D0])) := same_upd nT2
      have e : toldD "fired" (.bl true) (.bl true) cs ns n es1 = .tuple [.str "told", .tuple ((ledOf n es cs ns).map .int)] := by
        unfold toldD
        rw [if_pos rfl, if_neg (by decide), if_pos rfl, eqL]
      rw [e] at dx
      refine ⟨x, .ref T2, _, rfl, Dp.same s5 dx, .tup (SqT.of upd_same) (.cons (.str "told") (.cons (.tup (SqT.of (s5 _ _ (bt.tup hkd hD0))) (dpAll_ints _)) .nil)), ?_, fun H6 s6 => ?_⟩
      · refine ⟨by show 2 ≤ 100000; decide, fun d hd => ?_⟩
        simp only [List.mem_cons, List.not_mem_nil, or_false] at hd
        rcases hd with rfl | rfl
        · exact True.intro
        · exact ⟨by rw [List.length_map, led_len]; omega, fit_ints⟩
      · refine ⟨_, rfl, iteF ?_⟩
        exact ⟨R5, rfl, bt.trans (Same.but (s5.trans s6)), gr5.same (s5.trans s6)⟩
    rintro σ H5 ⟨R5, rfl, bt5, gr5⟩
    obtain ⟨kvs4, hkd4⟩ := F4.gr.kd
    have F5 := F4.but bt5 gr5
    have hD5 := bt5.tup hkd4 hD0
    have b25 : But (· = kd) H2 H5 := (Same.but s24).trans bt5
    have b05 : But (· = kd) H H5 := (Same.but s04).trans bt5
    -- degree
    refine ⟨fun σ H6 => σ = [some (.ref a), some (nV n), some (.ref l), some (.ref g), some (.ref T), some (.ref c0), some (.ref q0), some (.ref p1), some (.ref p2), some (.str DD.shown), some (.ref D0), none, none, none, none, none] ∧ Same H5 H6, ?_, ?_⟩
    · refine ⟨_, rfl, _, rfl, g, kd, R5, n, es1, "degree", .ref p1, .bl true, .non, .non, cs, [], rfl, F5.gr, F5.h1.rw lcs, .inl rfl, fun H6 R6 x bt6 gr6 hr1 hr2 hs6 dx => ?_⟩
      have s6 := hs6 (.inl rfl)
      have F6 := F5.same s6
      refine ⟨_, rfl, _, rfl, g, kd, R5, n, es1, "degree", .ref D0, .bl true, .non, .non, ledOf n es cs ns, [], rfl, F6.gr, .good rfl (.inr (SqT.of (s6 _ _ hD5))) (led_len _ _ _ _), .inl rfl, fun H7 R7 x2 bt7 gr7 hr3 hr4 hs7 dx2 => ?_⟩
      have s7 := hs7 (.inl rfl)
      have e1 : toldD "degree" (.bl true) .non cs [] n es1 = .tuple [.str "told", .int cs.sum] := by
        unfold toldD
        rw [if_pos rfl, if_pos rfl]
      have e2 : toldD "degree" (.bl true) .non (ledOf n es cs ns) [] n es1 = .tuple [.str "told", .int cs.sum] := by
        unfold toldD
        rw [if_pos rfl, if_pos rfl, led_sum es ns lcs]
      rw [e1] at dx
      rw [e2] at dx2
      have s67 := s6.trans s7
      refine ⟨by show 2 ≤ sizeLine; decide, fun T3 nT3 => ?_⟩
      have s8 : Same H7 (upd H7 T3 (.tup [x, x2])) := same_upd nT3
      have h3 : (upd H7 T3 (.tup [x, x2])) T3 = some (.tup [x, x2]) := upd_same
      generalize upd H7 T3 (.tup [x, x2]) = H8 at s8 h3 ⊢
      have F8 := F5.same (s67.trans s8)
      refine ⟨_, rfl, c0, cs, rfl, SqL.of F8.hc, ?_⟩
      refine ⟨by show 2 ≤ sizeLine; decide, fun T4 nT4 => ?_⟩
      have s9 : Same H8 (upd H8 T4 (.tup [.str "told", .int cs.sum])) := same_upd nT4
      have h4 : (upd H8 T4 (.tup [.str "told", .int cs.sum])) T4 = some (.tup [.str "told", .int cs.sum]) := upd_same
      generalize upd H8 T4 (.tup [.str "told", .int cs.sum]) = H9 at s9 h4 ⊢
      refine ⟨by show 1 ≤ sizeLine; decide, fun T5 nT5 => ?_⟩
      have s10 : Same H9 (upd H9 T5 (.tup [.ref T4])) := same_upd nT5
      have h5 : (upd H9 T5 (.tup [.ref T4])) T5 = some (.tup [.ref T4]) := upd_same
      generalize upd H9 T5 (.tup [.ref T4]) = H10 at s10 h5 ⊢
      refine ⟨T5, 2, [.ref T4], rfl, rfl, SqT.of h5, fun z => (nomatch z), by decide, by decide, by show 1 ≤ 1000; decide, fun T6 nT6 => ?_⟩
      have s11 : Same H10 (upd H10 T6 (.tup (List.replicate (2 : Int).toNat [V.ref T4]).flatten)) := same_upd nT6
      have h6 : (upd H10 T6 (.tup (List.replicate (2 : Int).toNat [V.ref T4]).flatten)) T6 = some (.tup [.ref T4, .ref T4]) := upd_same
      generalize upd H10 T6 (.tup (List.replicate (2 : Int).toNat [V.ref T4]).flatten) = H11 at s11 h6 ⊢
      have s811 := (s9.trans s10).trans s11
      have dT : Dp K H11 (.ref T4) (.tuple [.str "told", .int cs.sum]) := .tup (SqT.of ((s10.trans s11) _ _ h4)) (.cons (.str "told") (.cons (.int _) .nil))
      refine ⟨.ref T3, .ref T6, .tuple [.tuple [.str "told", .int cs.sum], .tuple [.str "told", .int cs.sum]], rfl, .tup (SqT.of (s811 _ _ h3)) (.cons (Dp.same ((s7.trans s8).trans s811) dx) (.cons (Dp.same (s8.trans s811) dx2) .nil)), .tup (SqT.of h6) (.cons dT (.cons dT .nil)), ?_, fun H12 s12 => ?_⟩
      · have f2 : Fit 2 (.tuple [.str "told", .int cs.sum]) := ⟨by show 2 ≤ 100000; decide, fun d hd => by
          simp only [List.mem_cons, List.not_mem_nil, or_false] at hd
          rcases hd with rfl | rfl <;> exact True.intro⟩
        refine ⟨by show 2 ≤ 100000; decide, fun d hd => ?_⟩
        simp only [List.mem_cons, List.not_mem_nil, or_false] at hd
        rcases hd with rfl | rfl <;> exact f2
      · refine ⟨_, rfl, iteF ?_⟩
        exact ⟨rfl, (s67.trans s8).trans (s811.trans s12)⟩
    rintro σ H6 ⟨rfl, s56⟩
    have F6 := F5.same s56
    have hD6 := s56 _ _ hD5
    have b26 := b25.trans (Same.but s56)
    have b06 := b05.trans (Same.but s56)
    clear F5 hD5 b25 b05 s56 bt5 gr5 F4 hD0
    -- back
    have lneg : (ns.map fun x => -x).length = n := by rw [List.length_map, lns]
    have eqB : ledOf n es1 (ledOf n es cs ns) (ns.map fun x => -x) = cs := by rw [led_perm pm, led_back es ns lcs]
    refine ⟨fun σ H9 => ∃ (R9 : Addr → Prop), σ = [some (.ref a), some (nV n), some (.ref l), some (.ref g), some (.ref T), some (.ref c0), some (.ref q0), some (.ref p1), some (.ref p2), some (.str DD.shown), some (.ref D0), none, none, none, none, none] ∧ But (· = kd) H6 H9 ∧ Gr memo1 H9 C g kd R9 n es1, ?_, ?_⟩
    · obtain ⟨kvs6, hkd6⟩ := F6.gr.kd
      refine ⟨_, rfl, _, rfl, _, rfl, q0, rfl, ⟨_, SqL.of F6.hq⟩, fun L nL => ?_⟩
      refine lc_list (K := K) (a := q0) (xs := ns.map V.int) (fun i H' => Same H6 H' ∧ H' L = some (.lst (((ns.take i).map fun x => -x).map V.int))) ⟨same_upd nL, upd_same⟩ (fun i H' _ p => SqL.of (p.1 _ _ F6.hq)) ?_ ?_
      · rintro i x H' hx ⟨sm, hL⟩
        have hi : i < ns.length := by have := (List.getElem?_eq_some_iff.mp hx).1; rwa [List.length_map] at this
        rw [getMap hi] at hx
        obtain rfl := Option.some.inj hx
        refine ⟨rfl, yes_ ?_⟩
        refine ⟨_, rfl, _, rfl, _, hL, size_lt (by rw [List.length_map, List.length_map, List.length_take]; omega), same_mut sm nL, ?_⟩
        rw [upd_same, List.take_add_one, List.getElem?_eq_getElem hi, List.map_append, List.map_append]; rfl
      · rintro H7 ⟨s67, hL⟩
        rw [List.length_map, List.take_length] at hL
        have F7 := F6.same s67
        refine ⟨g, kd, R5, n, es1, .ref D0, .bl true, .ref L, .bl true, ledOf n es cs ns, ns.map fun x => -x, rfl, F7.gr, .good rfl (.inr (SqT.of (s67 _ _ hD6))) (led_len _ _ _ _), fun _ => .good rfl (.inl (SqL.of hL)) lneg, fun H8 R8 S _ _ bt8 gr8 hr1 hr2 nS nRS hS => ?_, fun H8 l8 _ _ ne _ => absurd rfl ne, fun H8 l8 _ _ _ ne _ => absurd rfl ne⟩
        rw [eqB] at hS
        obtain ⟨kvs7, hkd7⟩ := F7.gr.kd
        have F8 := F7.but bt8 gr8
        refine ⟨_, rfl, c0, _, rfl, .inl ⟨SqL.of F8.hc, fun T8 nT8 => ?_⟩⟩
        have s9 : Same H8 (upd H8 T8 (.tup (cs.map V.int))) := same_upd nT8
        have h9 : (upd H8 T8 (.tup (cs.map V.int))) T8 = some (.tup (cs.map V.int)) := upd_same
        generalize upd H8 T8 (.tup (cs.map V.int)) = H9 at s9 h9 ⊢
        refine ⟨.ref S, .ref T8, .tuple (cs.map .int), rfl, .tup (SqT.of (s9 _ _ hS)) (dpAll_ints _), .tup (SqT.of h9) (dpAll_ints _), ⟨by rw [List.length_map]; omega, fit_ints⟩, fun H10 s10 => ?_⟩
        refine ⟨_, rfl, iteF ?_⟩
        have s810 := s9.trans s10
        have F10 := F8.same s810
        refine ⟨_, rfl, _, rfl, by show 2 ≤ sizeLine; decide, fun T11 nT11 => ?_⟩
        have s11 : Same H10 (upd H10 T11 (.tup [.ref p1, .ref p2])) := same_upd nT11
        have h11 : (upd H10 T11 (.tup [.ref p1, .ref p2])) T11 = some (.tup [.ref p1, .ref p2]) := upd_same
        generalize upd H10 T11 (.tup [.ref p1, .ref p2]) = H11 at s11 h11 ⊢
        have bt11 : But (· = kd) H6 H11 := ((Same.but s67).trans bt8).trans (Same.but (s810.trans s11))
        have b211 := b26.trans bt11
        have k1 : ∀ o, H2 p1 = some o → H11 p1 = some o := fun o e => b211 _ _ (keep1.1 o e) e
        have k2 : ∀ o, H2 p2 = some o → H11 p2 = some o := fun o e => b211 _ _ (keep1.2 o e) e
        refine ⟨T11, DD, rfl, hD ▸ .tup (SqT.of h11) (.cons (d1 K _ k1) (.cons (d2 K _ k2) .nil)), t1, t2, t3, t4, ?_⟩
        refine ⟨_, rfl, rfl, _, rfl, ifN (fun z => absurd rfl z) fun _ => ?_⟩
        exact ⟨R8, rfl, bt11, gr8.same (s810.trans s11)⟩
    rintro σ H9 ⟨R9, rfl, bt9, gr9⟩
    have F9 := F6.but bt9 gr9
    have b09 := b06.trans bt9
    clear F6 hD6 b26 b06 bt9 gr9 d1 d2 hD t1 t2 t3 t4
    have s09 : Same H H9 := fun b o e => b09 _ _ (ne_of_none e nk0) e
    clear b09
    -- spoilt
    refine ⟨fun σ H10 => ∃ (v r : V), σ = [some (.ref a), some (nV n), some (.ref l), some (.ref g), some (.ref T), some (.ref c0), some (.ref q0), some (.ref p1), some (.ref p2), some (.str DD.shown), some (.ref D0), some v, some r, none, none, none] ∧ Same H9 H10 ∧ Rw K H10 v n r [] ∧ r ≠ .bl true, ?_, ?_⟩
    · refine ⟨_, rfl, _, rfl, a, c0, cs, rfl, F9.hp, F9.hc, by omega, by omega, fun H10 T0 v r s10 hT hv ne => ?_⟩
      rw [lcs] at hv
      exact ⟨T0, _, rfl, SqT.of hT, rfl, _, _, rfl, _, _, rfl, rfl, v, r, rfl, s10, hv, ne⟩
    rintro σ H10 ⟨v, r, rfl, s10, hv, ne⟩
    have F10 := F9.same s10
    have s010 := s09.trans s10
    clear F9 s09 s10
    -- wrong
    refine ⟨fun σ H11 => ∃ (v2 r2 : V), σ = [some (.ref a), some (nV n), some (.ref l), some (.ref g), some (.ref T), some (.ref c0), some (.ref q0), some (.ref p1), some (.ref p2), some (.str DD.shown), some (.ref D0), some v, some r, some v2, some r2, none] ∧ Same H10 H11 ∧ Rw K H11 v2 n r2 [] ∧ r2 ≠ .bl true, ?_, ?_⟩
    · refine ⟨_, rfl, _, rfl, a, q0, ns, rfl, F10.hp, F10.hq, by omega, by omega, fun H11 T0 v2 r2 s11 hT hv2 ne2 => ?_⟩
      rw [lns] at hv2
      exact ⟨T0, _, rfl, SqT.of hT, rfl, _, _, rfl, _, _, rfl, rfl, v2, r2, rfl, s11, hv2, ne2⟩
    rintro σ H11 ⟨v2, r2, rfl, s11, hv2, ne2⟩
    have F11 := F10.same s11
    have hv := hv.same s11
    have s011 := s010.trans s11
    clear F10 s010 s11
    have fit3 : ∀ (x : Str) (r : V), Fit 3 (.tuple [.str x, numD r, .bool true]) := fun x r => ⟨by show 3 ≤ 100000; decide, fun d hd => by
      simp only [List.mem_cons, List.not_mem_nil, or_false] at hd
      rcases hd with rfl | rfl | rfl
      · exact True.intro
      · cases r <;> exact True.intro
      · exact True.intro⟩
    -- degree of spoilt
    refine ⟨fun σ H12 => σ = [some (.ref a), some (nV n), some (.ref l), some (.ref g), some (.ref T), some (.ref c0), some (.ref q0), some (.ref p1), some (.ref p2), some (.str DD.shown), some (.ref D0), some v, some r, some v2, some r2, none] ∧ Same H11 H12, ?_, ?_⟩
    · refine ⟨_, rfl, _, rfl, g, kd, R9, n, es1, "degree", v, r, .non, .non, [], [], rfl, F11.gr, hv, .inl rfl, fun H12 R12 x bt12 gr12 hr1 hr2 hs dx => ?_⟩
      have s12 := hs (.inl rfl)
      have e : toldD "degree" r .non [] [] n es1 = .tuple [.str "sum", numD r, .bool true] := by
        unfold toldD
        rw [if_neg ne]
      rw [e] at dx
      refine ⟨_, rfl, by show 3 ≤ sizeLine; decide, fun T13 nT13 => ?_⟩
      have s13 : Same H12 (upd H12 T13 (.tup [.str "sum", r, .bl true])) := same_upd nT13
      refine ⟨x, .ref T13, _, rfl, Dp.same s13 dx, .tup (SqT.of upd_same) (.cons (.str "sum") (.cons (hv.num ne _ _) (.cons (.bl true) .nil))), fit3 _ _, fun H14 s14 => ?_⟩
      exact ⟨_, rfl, iteF ⟨rfl, s12.trans (s13.trans s14)⟩⟩
    rintro σ H12 ⟨rfl, s12⟩
    have F12 := F11.same s12
    have hv := hv.same s12
    have hv2 := hv2.same s12
    have s012 := s011.trans s12
    clear F11 s011 s12
    -- fired of spoilt
    refine ⟨fun σ H13 => σ = [some (.ref a), some (nV n), some (.ref l), some (.ref g), some (.ref T), some (.ref c0), some (.ref q0), some (.ref p1), some (.ref p2), some (.str DD.shown), some (.ref D0), some v, some r, some v2, some r2, none] ∧ Same H12 H13, ?_, ?_⟩
    · refine ⟨_, rfl, _, rfl, _, rfl, _, rfl, _, rfl, by show 2 ≤ sizeLine; decide, fun L nL => ?_⟩
      have sL : Same H12 (upd H12 L (.lst [v2, .ref q0])) := same_upd nL
      have hL : (upd H12 L (.lst [v2, .ref q0])) L = some (.lst [v2, .ref q0]) := upd_same
      generalize upd H12 L (.lst [v2, .ref q0]) = H13 at sL hL ⊢
      have F13 := F12.same sL
      refine ⟨a, L, _, rfl, F13.hp, SqL.of hL, by show 0 < 2; decide, by show 2 < 1000000000; decide, fun i v3 _ => ?_⟩
      refine ⟨g, kd, R9, n, es1, "fired", v, r, v3, .non, [], [], rfl, F13.gr, hv.same sL, .inr ⟨rfl, fun z => absurd z ne⟩, fun H14 R14 x bt14 gr14 hr1 hr2 hs dx => ?_⟩
      have s14 := hs (.inr (.inl ne))
      have e : toldD "fired" r .non [] [] n es1 = .tuple [.str "sum", numD r, .bool true] := by
        unfold toldD
        rw [if_neg ne]
      rw [e] at dx
      refine ⟨_, rfl, by show 3 ≤ sizeLine; decide, fun T15 nT15 => ?_⟩
      have s15 : Same H14 (upd H14 T15 (.tup [.str "sum", r, .bl true])) := same_upd nT15
      refine ⟨x, .ref T15, _, rfl, Dp.same s15 dx, .tup (SqT.of upd_same) (.cons (.str "sum") (.cons (hv.num ne _ _) (.cons (.bl true) .nil))), fit3 _ _, fun H16 s16 => ?_⟩
      exact ⟨_, rfl, iteF ⟨rfl, (sL.trans s14).trans (s15.trans s16)⟩⟩
    rintro σ H13 ⟨rfl, s13⟩
    have F13 := F12.same s13
    have hv2 := hv2.same s13
    have s013 := s012.trans s13
    refine ⟨_, rfl, _, rfl, _, rfl, g, kd, R9, n, es1, "fired", .ref p1, .bl true, v2, r2, cs, [], rfl, F13.gr, F13.h1.rw lcs, .inr ⟨rfl, fun _ => hv2⟩, fun H14 R14 x bt14 gr14 hr1 hr2 hs dx => ?_⟩
    have s14 := hs (.inr (.inr ne2))
    have e : toldD "fired" (.bl true) r2 cs [] n es1 = .tuple [.str "script", numD r2, .bool true] := by
      unfold toldD
      rw [if_pos rfl, if_neg (by decide), if_neg ne2]
    rw [e] at dx
    refine ⟨_, rfl, by show 3 ≤ sizeLine; decide, fun T15 nT15 => ?_⟩
    have s15 : Same H14 (upd H14 T15 (.tup [.str "script", r2, .bl true])) := same_upd nT15
    refine ⟨x, .ref T15, _, rfl, Dp.same s15 dx, .tup (SqT.of upd_same) (.cons (.str "script") (.cons (hv2.num ne2 _ _) (.cons (.bl true) .nil))), fit3 _ _, fun H16 s16 => ?_⟩
    exact q _ ((s013.trans s14).trans (s15.trans s16))
end
end G3

set_option Elab.async false
set_option linter.all false
set_option maxRecDepth 100000
set_option maxHeartbeats 4000000
namespace G3
open PySem PySem.Spec PyProof.Rows L2
theorem tab_sum (es : List Pr) (n v : Nat) : (tabLine es n v).sum = valOf n es v := by
  unfold tabLine
  show sumR n (fun u => (mult es v u : Int)) = msum (mult es v) n fun _ => 1
  rw [msum_R]
  exact sumR_congr fun u _ => (Int.mul_one _).symm
theorem can_perm {es es' : List Pr} (h : es'.Perm es) (n : Nat) : ((List.range n).map fun i => valOf n es' i - 2) = (List.range n).map fun i => valOf n es i - 2 :=
  List.map_congr_left fun i _ => by rw [val_perm h]
section
variable {P : Program} {w : World} {K : PySem.W.Frag} {mg : Str → Option Value} {base : Heap} {C : Addr}
def spLaw (K : PySem.W.Frag) : Sp := fun vs H Q _ => ∃ (a : Addr) (ns : List Int), vs = [.ref a] ∧ SqL K H a (ns.map V.int) ∧ ns.length ≤ 10000 ∧ ∀ H', Q (.bl true) H'
theorem ok_law (D : DefAt K mg "law" "law" s_law) (B : Bt mg) (h_law_pool : Has P w K mg base CX0 1 "_law_pool" p_law_pool (spPool K)) (h_law_pick : Has P w K mg base CX0 3 "_law_pick" p_law_pick (spPick K))
    (h_law_graph : Has P w K mg base CX0 4 "_law_graph" p_law_graph spGraph) (h_law_table : Has P w K mg base CX0 1 "_law_table" p_law_table spTable) (mk_Graph : HasMk P w K mg base CX0 3 "Graph" C p_Graph___init__ (spGInit C))
    (h_canonical : Has P w K mg base CX0 3 "canonical" p_canonical (spCanonical memo1 C)) (h_law_same : Has P w K mg base CX0 4 "_law_same" p_law_same (spSame K 3)) (h_law_so : HasG P w K mg base CX0 6 "_law_so" p_law_so spSo) : HasG P w K mg base CX0 7 "law" p_law (spLaw K) := by
  refine hasG_of D sc_law (fun _ _ _ _ _ _ us hl => match us, hl with | [_], _ => rfl) (fun vs H Q E h => ?_) (fun f cdv A outer s H vs Q E hgd hr h => ?_)
  · obtain ⟨a, ns, rfl, _⟩ := h
    rfl
  · obtain ⟨a, ns, rfl, ha, hl, q⟩ := h
    refine ⟨_, (Evl.pss_cut (ps_set (i := 1) sc_law.nd rfl (.inl rfl) (pe_h h_law_pool hr pass0 (pa_cons (pv 0) pa_nil)))
  (Evl.pss_cut (ps_for PassesOwn.never rfl (pi_range1 rfl B.range (pa_cons pe_int pa_nil)) (pg_name (i := 2) sc_law.nd rfl (.inl rfl)) (Evl.pss_cut (ps_asg (pe_h h_law_graph hr pass0 (pa_cons (pv 1) (pa_cons (pe_h h_law_pick hr pass0 (pa_cons (pv 1) (pa_cons (pe_lst (pa_cons pe_int (pa_cons pe_int (pa_cons pe_int (pa_cons pe_int (pa_cons pe_int pa_nil)))))) pa_nil))) (pa_cons (pe_h h_law_pick hr pass0 (pa_cons (pv 1) (pa_cons (pe_lst (pa_cons pe_int (pa_cons pe_int (pa_cons pe_int (pa_cons pe_int pa_nil))))) pa_nil))) pa_nil)))) (pgT (K := K) (n := 2) rfl rfl (pgs_cons (pg_name (i := 3) sc_law.nd rfl (.inl rfl)) (pgs_cons (pg_name (i := 4) sc_law.nd rfl (.inl rfl)) pgs_nil))))
  (Evl.pss_cut (ps_set (i := 5) sc_law.nd rfl (.inl rfl) (pe_h h_law_table hr pass0 (pa_cons (pv 3) (pa_cons (pv 4) pa_nil))))
  (Evl.pss_cut (ps_set (i := 6) sc_law.nd rfl (.inl rfl) (pe_h h_canonical hr pass0 (pa_cons (pe_makeH mk_Graph hr pass0 (pa_cons (pv 3) (pa_cons (pv 4) pa_nil))) pa_nil)))
  (Evl.pss_cut (ps_if (PW.pt (pw_or (pt_not (pt_val (pe_h h_law_same hr pass0 (pa_cons (pv 6) (pa_cons (pe_callTy (tupK (K := K) rfl) rfl B.tuple (by decide +kernel) (pa_cons (pe_lc (own := [("line", 7)]) (g := gName 7) (tt := tYes) rfl sc_law.nd (piL (K := K) rfl (pv 5)) (blkOk_by (N := n_law) (sc := defScope s_law) (by decide +kernel)) (fun _ _ _ _ _ => (pg_name (i := 7) sc_law.nd rfl (.inl rfl))) (fun _ _ _ _ _ => pts_nil) (fun _ _ _ _ _ => (pe_op op_sub (pe_callB (sumK (K := K) rfl rfl) rfl B.sum (by decide +kernel) (pa_cons (pv 7) pa_nil)) pe_int))) pa_nil)) pa_nil))))) (pw_or1 (pt_cmpR op_ne (pe_callB (cr_sumT rfl) rfl B.sum (by decide +kernel) (pa_cons (pv 6) pa_nil)) (pe_op op_mul pe_int (pe_op op_sub (pe_callB (lenK (K := K) rfl) rfl B.len PySem.boot_len (pa_cons (pv 4) pa_nil)) (pv 3))) (nomark _))))) (pss_one (ps_ret pe_bl)) pss_nil)
  (pss_one (ps_if (pt_not (pt_val (pe_hG hgd h_law_so hr pass0 (pa_cons (pv 1) (pa_cons (pv 3) (pa_cons (pv 4) pa_nil)))))) (pss_one (ps_ret pe_bl)) pss_nil)))))))
  (pss_one (ps_ret pe_bl)))), ?_⟩
    refine ⟨fun σ H1 => ∃ p, σ = [some (.ref a), some (.ref p), none, none, none, none, none, none] ∧ PoolAt H1 p, ?_, ?_⟩
    · exact ⟨_, rfl, a, ns, rfl, ha, hl, fun H' p _ hp => ⟨p, rfl, hp⟩⟩
    rintro σ H1 ⟨p, rfl, hp1⟩
    refine ⟨fun σ H2 => ∃ (x2 x3 x4 x5 x6 x7 : Option V), σ = [some (.ref a), some (.ref p), x2, x3, x4, x5, x6, x7] ∧ PoolAt H2 p, ?_, ?_⟩
    · refine ⟨3, rfl, by decide, by decide, ?_⟩
      refine for_range (lo := 0) (n := (3 : Int).toNat) (fun i σ H2 => ∃ (x2 x3 x4 x5 x6 x7 : Option V), σ = [some (.ref a), some (.ref p), x2, x3, x4, x5, x6, x7] ∧ PoolAt H2 p) ⟨_, _, _, _, _, _, rfl, hp1⟩ ?_ (fun σ H' h => h)
      rintro i σ H2 hi ⟨x2, x3, x4, x5, x6, x7, rfl, hp2⟩
      -- the graph
      refine ⟨fun σ H3 => ∃ (l : Addr) (n : Nat) (es : List Pr), σ = [some (.ref a), some (.ref p), some (.int (0 + (i : Nat))), some (nV n), some (.ref l), x5, x6, x7] ∧ PoolAt H3 p ∧ PLst H3 l es ∧ Good n es ∧ 1 ≤ n ∧ n ≤ 64 ∧ es.length ≤ 400, ?_, ?_⟩
      · refine ⟨_, rfl, _, rfl, by show 5 ≤ sizeLine; decide, fun L1 n1 => ?_⟩
        have s1 : Same H2 (upd H2 L1 (.lst [.int 1, .int 3, .int 8, .int 24, .int 64])) := same_upd n1
        refine ⟨p, L1, _, rfl, hp2.same s1, SqL.of upd_same, by show 0 < 5; decide, by show 5 < 1000000000; decide, fun i1 v1 hv1 => ?_⟩
        obtain ⟨most, rfl, m1, m2⟩ : ∃ m : Int, v1 = .int m ∧ 1 ≤ m ∧ m ≤ 64 := by
          have hm := List.mem_of_getElem? hv1
          simp only [List.mem_cons, List.not_mem_nil, or_false] at hm
          rcases hm with rfl | rfl | rfl | rfl | rfl
          · exact ⟨_, rfl, by decide, by decide⟩
          · exact ⟨_, rfl, by decide, by decide⟩
          · exact ⟨_, rfl, by decide, by decide⟩
          · exact ⟨_, rfl, by decide, by decide⟩
          · exact ⟨_, rfl, by decide, by decide⟩
        generalize upd H2 L1 (.lst [.int 1, .int 3, .int 8, .int 24, .int 64]) = H3 at s1 ⊢
        refine ⟨_, rfl, by show 4 ≤ sizeLine; decide, fun L2 n2 => ?_⟩
        have s2 : Same H3 (upd H3 L2 (.lst [.int 0, .int 3, .int 20, .int 300])) := same_upd n2
        refine ⟨p, L2, _, rfl, hp2.same (s1.trans s2), SqL.of upd_same, by show 0 < 4; decide, by show 4 < 1000000000; decide, fun i2 v2 hv2 => ?_⟩
        obtain ⟨gen, rfl, g1, g2⟩ : ∃ m : Int, v2 = .int m ∧ 0 ≤ m ∧ m ≤ 337 := by
          have hm := List.mem_of_getElem? hv2
          simp only [List.mem_cons, List.not_mem_nil, or_false] at hm
          rcases hm with rfl | rfl | rfl | rfl
          · exact ⟨_, rfl, by decide, by decide⟩
          · exact ⟨_, rfl, by decide, by decide⟩
          · exact ⟨_, rfl, by decide, by decide⟩
          · exact ⟨_, rfl, by decide, by decide⟩
        generalize upd H3 L2 (.lst [.int 0, .int 3, .int 20, .int 300]) = H4 at s2 ⊢
        have hp4 := hp2.same (s1.trans s2)
        refine ⟨p, most, gen, rfl, hp4, m1, m2, g1, g2, fun H5 t l n es s5 ht _ hpl hn1 hn2 good hel => ?_⟩
        refine ⟨t, _, rfl, SqT.of ht, rfl, _, _, rfl, _, _, rfl, rfl, l, n, es, rfl, hp4.same s5, hpl, good, hn1, by omega, by omega⟩
      rintro σ H3 ⟨l, n, es, rfl, hp3, hpl, good, hn1, hn, he⟩
      -- the table
      refine ⟨fun σ H4 => ∃ (T : Addr) (as : List Addr), σ = [some (.ref a), some (.ref p), some (.int (0 + (i : Nat))), some (nV n), some (.ref l), some (.ref T), x6, x7] ∧ Same H3 H4 ∧ as.length = n ∧ Rows H4 T as (fun v => .lst ((tabLine es n v).map V.int)), ?_, ?_⟩
      · exact ⟨_, rfl, _, rfl, n, l, es, rfl, hpl, good.1, by omega, by omega, fun H4 T as s4 _ las _ ro => ⟨T, as, rfl, s4, las, ro⟩⟩
      rintro σ H4 ⟨T, as, rfl, s4, las, ro⟩
      have hp4 := hp3.same s4
      have hpl4 := hpl.same s4
      clear hp3 hpl s4
      -- canonical
      refine ⟨fun σ H5 => ∃ (Z : Addr), σ = [some (.ref a), some (.ref p), some (.int (0 + (i : Nat))), some (nV n), some (.ref l), some (.ref T), some (.ref Z), x7] ∧ Same H4 H5 ∧ H5 Z = some (.tup (((List.range n).map fun i => valOf n es i - 2).map V.int)), ?_, ?_⟩
      · refine ⟨_, rfl, _, rfl, ?_⟩
        intro g dx0 nx0 ndx0 ne0
        obtain ⟨ws, hw1, hw2⟩ := id hpl4
        have s0 := new_same (C := C) nx0 ndx0
        refine ⟨g, dx0, l, n, ws, es, rfl, upd_same, s0 _ _ hw1, hw2.same s0, good, hn1, hn, he, fun H5 es1 kd bt ga pm hx nk hk => ⟨rfl, ?_⟩⟩
        obtain ⟨s5, R, gr5⟩ := made_graph memo1 good hn1 hn he nx0 ndx0 bt ga pm hx hk
        refine ⟨g, kd, R, n, es1, rfl, gr5, fun H6 R6 Z bt6 gr6 _ _ _ _ hZ => ?_⟩
        rw [can_perm pm] at hZ
        exact ⟨Z, rfl, fun b o e => bt6 _ _ (ne_of_none e (s0.free nk)) (s5 _ _ e), hZ⟩
      rintro σ H5 ⟨Z, rfl, s5, hZ⟩
      have hp5 := hp4.same s5
      have hpl5 := hpl4.same s5
      have ro5 := ro.same s5
      clear hp4 hpl4 ro s5
      -- right?
      refine ⟨fun σ H6 => σ = [some (.ref a), some (.ref p), some (.int (0 + (i : Nat))), some (nV n), some (.ref l), some (.ref T), some (.ref Z), x7] ∧ Same H5 H6, ?_, ?_⟩
      · refine ⟨_, rfl, _, rfl, T, rfl, ⟨_, SqL.of ro5.1⟩, fun L nL => ?_⟩
        refine lc_list (K := K) (a := T) (xs := as.map V.ref) (fun j H6 => Same H5 H6 ∧ H6 L = some (.lst (((List.range j).map fun i => valOf n es i - 2).map V.int))) ⟨same_upd nL, upd_same⟩ (fun j H6 _ pr => SqL.of (pr.1 _ _ ro5.1)) ?_ ?_
        · rintro j x H6 hx ⟨sm, hL⟩
          have hj : j < as.length := by have := (List.getElem?_eq_some_iff.mp hx).1; rwa [List.length_map] at this
          rw [rows_get hj] at hx
          obtain rfl := Option.some.inj hx
          refine ⟨rfl, yes_ ?_⟩
          refine ⟨_, rfl, as[j], _, rfl, SqL.of (sm _ _ (ro5.at hj).2), ?_⟩
          rw [tab_sum]
          refine ⟨_, _, rfl, rfl, _, hL, size_lt (by rw [List.length_map, List.length_map, List.length_range]; omega), same_mut sm nL, ?_⟩
          rw [upd_same, List.range_succ, List.map_append, List.map_append]; rfl
        · rintro H6 ⟨sm, hL⟩
          rw [List.length_map, las] at hL
          refine ⟨L, _, rfl, .inl ⟨SqL.of hL, fun T7 nT7 => ?_⟩⟩
          have s7 : Same H6 (upd H6 T7 (.tup (((List.range n).map fun i => valOf n es i - 2).map V.int))) := same_upd nT7
          have h7 : (upd H6 T7 (.tup (((List.range n).map fun i => valOf n es i - 2).map V.int))) T7 = some (.tup (((List.range n).map fun i => valOf n es i - 2).map V.int)) := upd_same
          generalize upd H6 T7 (.tup (((List.range n).map fun i => valOf n es i - 2).map V.int)) = H7 at s7 h7 ⊢
          have s57 := sm.trans s7
          refine ⟨.ref Z, .ref T7, .tuple (((List.range n).map fun i => valOf n es i - 2).map .int), rfl, .tup (SqT.of (s57 _ _ hZ)) (dpAll_ints _), .tup (SqT.of h7) (dpAll_ints _), ⟨by rw [List.length_map, List.length_map, List.length_range]; omega, fit_ints⟩, fun H8 s8 => ?_⟩
          refine ⟨_, rfl, iteF ?_⟩
          have s58 := s57.trans s8
          refine ⟨_, rfl, Z, _, rfl, SqT.of (s58 _ _ hZ), ?_⟩
          rw [can_sum fun e he => by have := good.1 e he; omega]
          obtain ⟨vs, hv1, hv2⟩ := hpl5
          have lv := hv2.len
          refine ⟨_, rfl, _, vs.length, rfl, .inl ⟨_, SqL.of (s58 _ _ hv1), rfl⟩, _, rfl, _, _, rfl, rfl, _, _, rfl, rfl, .inl ⟨by decide, by decide⟩, rfl, _, rfl, ?_⟩
          refine ifN (fun z => absurd (by rw [lv]) z) fun _ => ?_
          exact ⟨rfl, s58⟩
      rintro σ H6 ⟨rfl, s6⟩
      refine ⟨_, rfl, _, rfl, _, rfl, p, l, n, es, rfl, hp5.same s6, hpl5.same s6, good, hn1, hn, he, fun H7 s7 => ?_⟩
      refine ⟨_, rfl, iteF ?_⟩
      exact ⟨_, _, _, _, _, _, rfl, hp5.same (s6.trans s7)⟩
    · rintro σ H2 ⟨x2, x3, x4, x5, x6, x7, rfl, hp2⟩
      exact q _
end
end G3

set_option Elab.async false
set_option linter.all false
set_option maxRecDepth 100000
set_option maxHeartbeats 2000000
namespace G3
open PySem PySem.Spec PyProof.Rows L2
section
variable {P : Program} {w : World} {K : PySem.W.Frag} {mg : Str → Option Value} {base : Heap}
abbrev n_is_whole_at10 : List Str := ["value"]
abbrev p_is_whole_at10 : List Str := ["value"]
theorem sc_is_whole_at10 : FnScope n_is_whole_at10 p_is_whole_at10 (defScope s_is_whole_at10) := ⟨rfl, rfl, rfl, by decide +kernel, rfl, by decide +kernel, by decide +kernel⟩
theorem ok_is_whole_s {x : Str} (D : DefAt K mg x "is_whole" s_is_whole_at10) (B : Bt mg) : Has P w K mg base CX0 1 x p_is_whole (spIsI K) := by
  refine has_of D sc_is_whole_at10 (fun _ _ _ _ _ _ us hl => match us, hl with | [_], _ => rfl) (fun vs H Q E h => ?_) (fun f cdv A outer s H vs Q E hr h => ?_)
  · obtain ⟨x, d, rfl, _⟩ := h
    rfl
  · obtain ⟨x, d, rfl, hd, q⟩ := h
    refine ⟨_, (pss_one (ps_ret (pe_and (pe_callB (isiK (K := K) rfl) rfl B.isinstance (by decide +kernel) (pa_cons (pv 0) (pa_cons (pe_bltn (v := .ty "int") (u := .type "int") rfl B.int (by decide +kernel) rfl) pa_nil))) (pe_one (pe_not (pe_callB (isiK (K := K) rfl) rfl B.isinstance (by decide +kernel) (pa_cons (pv 0) (pa_cons (pe_bltn (v := .ty "bool") (u := .type "bool") rfl B.bool (by decide +kernel) rfl) pa_nil)))))))), ?_⟩
    have ty := Dp.ty hd
    refine ⟨_, rfl, _, _, _, _, _, rfl, .ty _, ty, kt_int d, _, rfl, ?_⟩
    cases hd with
    | non => exact iteF q
    | bl b => exact iteT ⟨_, rfl, _, _, _, _, _, rfl, .ty _, ty, kt_bool _, _, rfl, q⟩
    | int i => exact iteT ⟨_, rfl, _, _, _, _, _, rfl, .ty _, ty, kt_bool _, _, rfl, q⟩
    | str x => exact iteF q
    | lst _ _ => exact iteF q
    | tup _ _ => exact iteF q
end
end G3

set_option Elab.async false
set_option linter.all false
set_option maxRecDepth 100000
set_option maxHeartbeats 0
namespace G3
open PySem PySem.Spec PyProof.Rows L2
abbrev RR : PySem.W.OpenRow := PySem.W.OpenLaw.row PySem.Challenge.rw_chipsproved_k21_sums_and_scripts
def d_beside : He.DefD := ⟨("beside", none), "beside", "beside", defArgs (top 3), defBody (top 3), defScope (top 3), [], []⟩
def d_valences : He.DefD := ⟨("valences", none), "valences", "valences", defArgs (top 4), defBody (top 4), defScope (top 4), [], []⟩
def d_sent_by : He.DefD := ⟨("sent_by", none), "sent_by", "sent_by", defArgs (top 5), defBody (top 5), defScope (top 5), [], []⟩
def d_led : He.DefD := ⟨("led", none), "led", "led", defArgs (top 6), defBody (top 6), defScope (top 6), [], []⟩
def d_told_sum : He.DefD := ⟨("told_sum", none), "told_sum", "told_sum", defArgs (top 12), defBody (top 12), defScope (top 12), [], []⟩
def d_told_script : He.DefD := ⟨("told_script", none), "told_script", "told_script", defArgs (top 13), defBody (top 13), defScope (top 13), [], []⟩
def d_degree : He.DefD := ⟨("degree", none), "degree", "degree", defArgs (top 14), defBody (top 14), defScope (top 14), [], []⟩
def d_canonical : He.DefD := ⟨("canonical", none), "canonical", "canonical", defArgs (top 15), defBody (top 15), defScope (top 15), [], []⟩
def d_fired : He.DefD := ⟨("fired", none), "fired", "fired", defArgs (top 16), defBody (top 16), defScope (top 16), [], []⟩
def d_is_whole_graphs : He.DefD := ⟨("is_whole_graphs", none), "is_whole", "is_whole", defArgs (top 21), defBody (top 21), defScope (top 21), [], []⟩
def d_is_whole_sums : He.DefD := ⟨("is_whole_sums", none), "is_whole", "is_whole", defArgs (top 10), defBody (top 10), defScope (top 10), [], []⟩
def d_edge_fault : He.DefD := ⟨("edge_fault", none), "edge_fault", "edge_fault", defArgs (top 23), defBody (top 23), defScope (top 23), [], []⟩
def d_together : He.DefD := ⟨("together", none), "together", "together", defArgs (top 24), defBody (top 24), defScope (top 24), [], []⟩
def d_law_pool : He.DefD := ⟨("_law_pool", none), "_law_pool", "_law_pool", defArgs (top 27), defBody (top 27), defScope (top 27), [], []⟩
def d_law_take : He.DefD := ⟨("_law_take", none), "_law_take", "_law_take", defArgs (top 28), defBody (top 28), defScope (top 28), [], []⟩
def d_law_pick : He.DefD := ⟨("_law_pick", none), "_law_pick", "_law_pick", defArgs (top 29), defBody (top 29), defScope (top 29), [], []⟩
def d_law_is_integer : He.DefD := ⟨("_law_is_integer", none), "_law_is_integer", "_law_is_integer", defArgs (top 30), defBody (top 30), defScope (top 30), [], []⟩
def d_law_same : He.DefD := ⟨("_law_same", none), "_law_same", "_law_same", defArgs (top 31), defBody (top 31), defScope (top 31), [], []⟩
def d_law_below : He.DefD := ⟨("_law_below", none), "_law_below", "_law_below", defArgs (top 32), defBody (top 32), defScope (top 32), [], []⟩
def d_law_order : He.DefD := ⟨("_law_order", none), "_law_order", "_law_order", defArgs (top 33), defBody (top 33), defScope (top 33), [], []⟩
def d_law_power : He.DefD := ⟨("_law_power", none), "_law_power", "_law_power", defArgs (top 34), defBody (top 34), defScope (top 34), [], []⟩
def d_law_given : He.DefD := ⟨("_law_given", none), "_law_given", "_law_given", defArgs (top 35), defBody (top 35), defScope (top 35), [], []⟩
def d_law_spoilt_row : He.DefD := ⟨("_law_spoilt_row", none), "_law_spoilt_row", "_law_spoilt_row", defArgs (top 36), defBody (top 36), defScope (top 36), [], []⟩
def d_law_graph : He.DefD := ⟨("_law_graph", none), "_law_graph", "_law_graph", defArgs (top 37), defBody (top 37), defScope (top 37), [], []⟩
def d_law_all_pairs : He.DefD := ⟨("_law_all_pairs", none), "_law_all_pairs", "_law_all_pairs", defArgs (top 38), defBody (top 38), defScope (top 38), [], []⟩
def d_law_table : He.DefD := ⟨("_law_table", none), "_law_table", "_law_table", defArgs (top 39), defBody (top 39), defScope (top 39), [], []⟩
def d_law_led : He.DefD := ⟨("_law_led", none), "_law_led", "_law_led", defArgs (top 40), defBody (top 40), defScope (top 40), [], []⟩
def d_law_great_chips : He.DefD := ⟨("_law_great_chips", none), "_law_great_chips", "_law_great_chips", defArgs (top 41), defBody (top 41), defScope (top 41), [], []⟩
def d_law_told : He.DefD := ⟨("_law_told", none), "_law_told", "_law_told", defArgs (top 42), defBody (top 42), defScope (top 42), [], []⟩
def d_law_so : He.DefD := ⟨("_law_so", none), "_law_so", "_law_so", defArgs (top 43), defBody (top 43), defScope (top 43), [], []⟩
def d_law : He.DefD := ⟨("law", none), "law", "law", defArgs (top 44), defBody (top 44), defScope (top 44), [], []⟩
def d_Graph___init__ : He.DefD := ⟨("Graph", some "__init__"), "__init__", "Graph.__init__", defArgs (inClass (top 25) 0), defBody (inClass (top 25) 0), defScope (inClass (top 25) 0), [], []⟩
def fn : List He.DefD := ([d_beside, d_valences, d_sent_by, d_led, d_told_sum, d_told_script, d_degree, d_canonical, d_fired, d_is_whole_graphs, d_is_whole_sums, d_edge_fault, d_together, d_law_pool, d_law_take, d_law_pick, d_law_is_integer, d_law_same, d_law_below, d_law_order, d_law_power, d_law_given, d_law_spoilt_row, d_law_graph, d_law_all_pairs] : List He.DefD) ++ ([d_law_table, d_law_led, d_law_great_chips, d_law_told, d_law_so, d_law, d_Graph___init__] : List He.DefD)
def fa : List He.Fa := ([.glo "beside", .glo "valences", .glo "sent_by", .glo "led", .glo "told_sum", .glo "told_script", .glo "degree", .glo "canonical", .glo "fired", .glo "is_whole_graphs", .glo "is_whole_sums", .glo "edge_fault", .glo "together", .glo "_law_pool", .glo "_law_take", .glo "_law_pick", .glo "_law_is_integer", .glo "_law_same", .glo "_law_below", .glo "_law_order", .glo "_law_power", .glo "_law_given", .glo "_law_spoilt_row", .glo "_law_graph", .glo "_law_all_pairs"] : List He.Fa) ++ ([.glo "_law_table", .glo "_law_led", .glo "_law_great_chips", .glo "_law_told", .glo "_law_so", .glo "law", .glo "Graph", .glo "BadSum", .glo "BadScript", .glo "ChipError", .free "len", .free "int", .free "list", .free "tuple", .free "range", .free "isinstance", .free "bool", .free "str", .free "all", .free "min", .free "max", .free "sum", .free "enumerate", .free "zip", .free "sorted"] : List He.Fa) ++ ([.free "repr", .free "super", .free "ValueError", .int "MOST_PLACES" 64, .int "MOST_EDGES" 400, .cls "Graph", .mkr "Graph", .noat "Graph" "n", .noat "Graph" "edges", .noat "Graph" "genus", .noat "Graph" "kept", .exm "BadSum" "BadSum" true, .exm "BadScript" "BadSum" false, .exm "BadScript" "BadScript" true] : List He.Fa)
def loose : List Str := (["ChipError", "beside", "valences", "sent_by", "led", "BadSum", "BadScript", "is_whole", "is_whole_sums", "told_sum", "told_script", "degree", "canonical", "fired", "MOST_PLACES", "MOST_EDGES", "BadGraph", "is_whole_graphs", "edge_fault", "together", "Graph", "_law_pool", "_law_take", "_law_pick", "_law_is_integer"] : List Str) ++ (["_law_same", "_law_below", "_law_order", "_law_power", "_law_given", "_law_spoilt_row", "_law_graph", "_law_all_pairs", "_law_table", "_law_led", "_law_great_chips", "_law_told", "_law_so"] : List Str)
def sup : List Str := ["BadSum", "BadScript"]
abbrev sB : Stmt := inClass (top 8) 0
abbrev sS : Stmt := inClass (top 9) 0
def sv : List SupX.FnC := [some ((("__init__" : Str)), "BadSum.__init__", defArgs sB, FuncBody.stmts (defBody sB), defScope sB, mainGlobals, builtinsNs), some ((("__init__" : Str)), "BadScript.__init__", defArgs sS, FuncBody.stmts (defBody sS), defScope sS, mainGlobals, builtinsNs)]
def kitB (K : PySem.W.Frag) (x : Str) (c : Value) : Bool := decide (PySem.W.kitOne K (.ref (He.ga K x)) c = some true)
def mine (K : PySem.W.Frag) : Bool := SupX.supB K (RR.prog.main.file : Str) "BadSum" "BadSum.__init__" && (SupX.supB K (RR.prog.main.file : Str) "BadScript" "BadScript.__init__" &&
  (kitB K "BadSum" (.ref (He.ga K "ChipError")) && (kitB K "BadSum" (.type "ValueError") && (kitB K "BadScript" (.ref (He.ga K "ChipError")) && kitB K "BadScript" (.type "ValueError")))))
abbrev hk : PySem.W.Hook := SupX.hookX 6 fa fn sup sv mine
def ob (s : PySem.W.SharedT) : SupX.AlX := SupX.obsXG 6 fa fn sup mine (HandSHeadRun.getT s)
theorem ob_eq (s : PySem.W.SharedT) : ob s = hk.obs s.abs := SupX.obsXG_eq (HandSHeadRun.getT_eq s)
theorem run (w : World) : HandSHeadRun.RunEq RR (PySem.W.view RR.prog [44]) hk ob 20000 loose w := by
  intro os
  kernel_rfl
abbrev PP : Program := (PySem.Challenge.rw_chipsproved_k21_sums_and_scripts).prog
theorem formB : ∃ p1 p2 q1 q2 q3 q4 q5 q6 q7 q8 q9 q10, defArgs sB = SupX.iA p1 p2 ∧ defBody sB = SupX.iB q1 q2 q3 q4 q5 q6 q7 q8 q9 q10 ∧ defScope sB = SupX.iS ∧ (q3.endLine == q5.line) = true := ⟨_, _, _, _, _, _, _, _, _, _, _, _, rfl, rfl, rfl, rfl⟩
theorem formS : ∃ p1 p2 q1 q2 q3 q4 q5 q6 q7 q8 q9 q10, defArgs sS = SupX.iA p1 p2 ∧ defBody sS = SupX.iB q1 q2 q3 q4 q5 q6 q7 q8 q9 q10 ∧ defScope sS = SupX.iS ∧ (q3.endLine == q5.line) = true := ⟨_, _, _, _, _, _, _, _, _, _, _, _, rfl, rfl, rfl, rfl⟩
theorem noSuper : (PP.main.scope.names.lookup (Str.ofString "super")).isSome = false := by decide +kernel
theorem facts {w : World} {K : PySem.W.Frag} {h : Heap} {mg : Str → Option Value} (X : K.In h) (G : h.Ns mainGlobals mg) (hx : SupX.obsX fa fn sup mine K = SupX.valX fn sv) (base : Heap) : HasG PP w K mg base CX0 7 "law" p_law (spLaw K) := by
  obtain ⟨c, hm, hsv⟩ := SupX.saysX hx
  have g_beside := He.glo_ok X G (c.fact 0 (f := .glo "beside") rfl)
  have g_valences := He.glo_ok X G (c.fact 1 (f := .glo "valences") rfl)
  have g_sent_by := He.glo_ok X G (c.fact 2 (f := .glo "sent_by") rfl)
  have g_led := He.glo_ok X G (c.fact 3 (f := .glo "led") rfl)
  have g_told_sum := He.glo_ok X G (c.fact 4 (f := .glo "told_sum") rfl)
  have g_told_script := He.glo_ok X G (c.fact 5 (f := .glo "told_script") rfl)
  have g_degree := He.glo_ok X G (c.fact 6 (f := .glo "degree") rfl)
  have g_canonical := He.glo_ok X G (c.fact 7 (f := .glo "canonical") rfl)
  have g_fired := He.glo_ok X G (c.fact 8 (f := .glo "fired") rfl)
  have g_is_whole_graphs := He.glo_ok X G (c.fact 9 (f := .glo "is_whole_graphs") rfl)
  have g_is_whole_sums := He.glo_ok X G (c.fact 10 (f := .glo "is_whole_sums") rfl)
  have g_edge_fault := He.glo_ok X G (c.fact 11 (f := .glo "edge_fault") rfl)
  have g_together := He.glo_ok X G (c.fact 12 (f := .glo "together") rfl)
  have g_law_pool := He.glo_ok X G (c.fact 13 (f := .glo "_law_pool") rfl)
  have g_law_take := He.glo_ok X G (c.fact 14 (f := .glo "_law_take") rfl)
  have g_law_pick := He.glo_ok X G (c.fact 15 (f := .glo "_law_pick") rfl)
  have g_law_is_integer := He.glo_ok X G (c.fact 16 (f := .glo "_law_is_integer") rfl)
  have g_law_same := He.glo_ok X G (c.fact 17 (f := .glo "_law_same") rfl)
  have g_law_below := He.glo_ok X G (c.fact 18 (f := .glo "_law_below") rfl)
  have g_law_order := He.glo_ok X G (c.fact 19 (f := .glo "_law_order") rfl)
  have g_law_power := He.glo_ok X G (c.fact 20 (f := .glo "_law_power") rfl)
  have g_law_given := He.glo_ok X G (c.fact 21 (f := .glo "_law_given") rfl)
  have g_law_spoilt_row := He.glo_ok X G (c.fact 22 (f := .glo "_law_spoilt_row") rfl)
  have g_law_graph := He.glo_ok X G (c.fact 23 (f := .glo "_law_graph") rfl)
  have g_law_all_pairs := He.glo_ok X G (c.fact 24 (f := .glo "_law_all_pairs") rfl)
  have g_law_table := He.glo_ok X G (c.fact 25 (f := .glo "_law_table") rfl)
  have g_law_led := He.glo_ok X G (c.fact 26 (f := .glo "_law_led") rfl)
  have g_law_great_chips := He.glo_ok X G (c.fact 27 (f := .glo "_law_great_chips") rfl)
  have g_law_told := He.glo_ok X G (c.fact 28 (f := .glo "_law_told") rfl)
  have g_law_so := He.glo_ok X G (c.fact 29 (f := .glo "_law_so") rfl)
  have g_law := He.glo_ok X G (c.fact 30 (f := .glo "law") rfl)
  have g_Graph := He.glo_ok X G (c.fact 31 (f := .glo "Graph") rfl)
  have g_BadSum := He.glo_ok X G (c.fact 32 (f := .glo "BadSum") rfl)
  have g_BadScript := He.glo_ok X G (c.fact 33 (f := .glo "BadScript") rfl)
  have g_ChipError := He.glo_ok X G (c.fact 34 (f := .glo "ChipError") rfl)
  have f_len := He.free_ok X G (c.fact 35 (f := .free "len") rfl)
  have f_int := He.free_ok X G (c.fact 36 (f := .free "int") rfl)
  have f_list := He.free_ok X G (c.fact 37 (f := .free "list") rfl)
  have f_tuple := He.free_ok X G (c.fact 38 (f := .free "tuple") rfl)
  have f_range := He.free_ok X G (c.fact 39 (f := .free "range") rfl)
  have f_isinstance := He.free_ok X G (c.fact 40 (f := .free "isinstance") rfl)
  have f_bool := He.free_ok X G (c.fact 41 (f := .free "bool") rfl)
  have f_str := He.free_ok X G (c.fact 42 (f := .free "str") rfl)
  have f_all := He.free_ok X G (c.fact 43 (f := .free "all") rfl)
  have f_min := He.free_ok X G (c.fact 44 (f := .free "min") rfl)
  have f_max := He.free_ok X G (c.fact 45 (f := .free "max") rfl)
  have f_sum := He.free_ok X G (c.fact 46 (f := .free "sum") rfl)
  have f_enumerate := He.free_ok X G (c.fact 47 (f := .free "enumerate") rfl)
  have f_zip := He.free_ok X G (c.fact 48 (f := .free "zip") rfl)
  have f_sorted := He.free_ok X G (c.fact 49 (f := .free "sorted") rfl)
  have f_repr := He.free_ok X G (c.fact 50 (f := .free "repr") rfl)
  have f_super := He.free_ok X G (c.fact 51 (f := .free "super") rfl)
  have f_ValueError := He.free_ok X G (c.fact 52 (f := .free "ValueError") rfl)
  have i_MOST_PLACES := He.int_ok X G (c.fact 53 (f := .int "MOST_PLACES" 64) rfl)
  have i_MOST_EDGES := He.int_ok X G (c.fact 54 (f := .int "MOST_EDGES" 400) rfl)
  have c_Graph := He.cls_ok (c.fact 55 (f := .cls "Graph") rfl)
  have k_Graph := He.mkr_ok (c.fact 56 (f := .mkr "Graph") rfl)
  have n_Graph_n := He.noat_ok (c.fact 57 (f := .noat "Graph" "n") rfl)
  have n_Graph_edges := He.noat_ok (c.fact 58 (f := .noat "Graph" "edges") rfl)
  have n_Graph_genus := He.noat_ok (c.fact 59 (f := .noat "Graph" "genus") rfl)
  have n_Graph_kept := He.noat_ok (c.fact 60 (f := .noat "Graph" "kept") rfl)
  have x_BadSum_BadSum := He.exm_ok (c.fact 61 (f := .exm "BadSum" "BadSum" true) rfl)
  have x_BadScript_BadSum := He.exm_ok (c.fact 62 (f := .exm "BadScript" "BadSum" false) rfl)
  have x_BadScript_BadScript := He.exm_ok (c.fact 63 (f := .exm "BadScript" "BadScript" true) rfl)
  have D_beside : DefAt K mg "beside" "beside" (top 3) := by
    obtain ⟨fd, F⟩ := c.def_ 0 (d := d_beside) rfl
    exact ⟨_, fd, He5.fun_of F, g_beside⟩
  have D_valences : DefAt K mg "valences" "valences" (top 4) := by
    obtain ⟨fd, F⟩ := c.def_ 1 (d := d_valences) rfl
    exact ⟨_, fd, He5.fun_of F, g_valences⟩
  have D_sent_by : DefAt K mg "sent_by" "sent_by" (top 5) := by
    obtain ⟨fd, F⟩ := c.def_ 2 (d := d_sent_by) rfl
    exact ⟨_, fd, He5.fun_of F, g_sent_by⟩
  have D_led : DefAt K mg "led" "led" (top 6) := by
    obtain ⟨fd, F⟩ := c.def_ 3 (d := d_led) rfl
    exact ⟨_, fd, He5.fun_of F, g_led⟩
  have D_told_sum : DefAt K mg "told_sum" "told_sum" (top 12) := by
    obtain ⟨fd, F⟩ := c.def_ 4 (d := d_told_sum) rfl
    exact ⟨_, fd, He5.fun_of F, g_told_sum⟩
  have D_told_script : DefAt K mg "told_script" "told_script" (top 13) := by
    obtain ⟨fd, F⟩ := c.def_ 5 (d := d_told_script) rfl
    exact ⟨_, fd, He5.fun_of F, g_told_script⟩
  have D_degree : DefAt K mg "degree" "degree" (top 14) := by
    obtain ⟨fd, F⟩ := c.def_ 6 (d := d_degree) rfl
    exact ⟨_, fd, He5.fun_of F, g_degree⟩
  have D_canonical : DefAt K mg "canonical" "canonical" (top 15) := by
    obtain ⟨fd, F⟩ := c.def_ 7 (d := d_canonical) rfl
    exact ⟨_, fd, He5.fun_of F, g_canonical⟩
  have D_fired : DefAt K mg "fired" "fired" (top 16) := by
    obtain ⟨fd, F⟩ := c.def_ 8 (d := d_fired) rfl
    exact ⟨_, fd, He5.fun_of F, g_fired⟩
  have D_is_whole_graphs : DefAt K mg "is_whole_graphs" "is_whole" (top 21) := by
    obtain ⟨fd, F⟩ := c.def_ 9 (d := d_is_whole_graphs) rfl
    exact ⟨_, fd, He5.fun_of F, g_is_whole_graphs⟩
  have D_is_whole_sums : DefAt K mg "is_whole_sums" "is_whole" (top 10) := by
    obtain ⟨fd, F⟩ := c.def_ 10 (d := d_is_whole_sums) rfl
    exact ⟨_, fd, He5.fun_of F, g_is_whole_sums⟩
  have D_edge_fault : DefAt K mg "edge_fault" "edge_fault" (top 23) := by
    obtain ⟨fd, F⟩ := c.def_ 11 (d := d_edge_fault) rfl
    exact ⟨_, fd, He5.fun_of F, g_edge_fault⟩
  have D_together : DefAt K mg "together" "together" (top 24) := by
    obtain ⟨fd, F⟩ := c.def_ 12 (d := d_together) rfl
    exact ⟨_, fd, He5.fun_of F, g_together⟩
  have D_law_pool : DefAt K mg "_law_pool" "_law_pool" (top 27) := by
    obtain ⟨fd, F⟩ := c.def_ 13 (d := d_law_pool) rfl
    exact ⟨_, fd, He5.fun_of F, g_law_pool⟩
  have D_law_take : DefAt K mg "_law_take" "_law_take" (top 28) := by
    obtain ⟨fd, F⟩ := c.def_ 14 (d := d_law_take) rfl
    exact ⟨_, fd, He5.fun_of F, g_law_take⟩
  have D_law_pick : DefAt K mg "_law_pick" "_law_pick" (top 29) := by
    obtain ⟨fd, F⟩ := c.def_ 15 (d := d_law_pick) rfl
    exact ⟨_, fd, He5.fun_of F, g_law_pick⟩
  have D_law_is_integer : DefAt K mg "_law_is_integer" "_law_is_integer" (top 30) := by
    obtain ⟨fd, F⟩ := c.def_ 16 (d := d_law_is_integer) rfl
    exact ⟨_, fd, He5.fun_of F, g_law_is_integer⟩
  have D_law_same : DefAt K mg "_law_same" "_law_same" (top 31) := by
    obtain ⟨fd, F⟩ := c.def_ 17 (d := d_law_same) rfl
    exact ⟨_, fd, He5.fun_of F, g_law_same⟩
  have D_law_below : DefAt K mg "_law_below" "_law_below" (top 32) := by
    obtain ⟨fd, F⟩ := c.def_ 18 (d := d_law_below) rfl
    exact ⟨_, fd, He5.fun_of F, g_law_below⟩
  have D_law_order : DefAt K mg "_law_order" "_law_order" (top 33) := by
    obtain ⟨fd, F⟩ := c.def_ 19 (d := d_law_order) rfl
    exact ⟨_, fd, He5.fun_of F, g_law_order⟩
  have D_law_power : DefAt K mg "_law_power" "_law_power" (top 34) := by
    obtain ⟨fd, F⟩ := c.def_ 20 (d := d_law_power) rfl
    exact ⟨_, fd, He5.fun_of F, g_law_power⟩
  have D_law_given : DefAt K mg "_law_given" "_law_given" (top 35) := by
    obtain ⟨fd, F⟩ := c.def_ 21 (d := d_law_given) rfl
    exact ⟨_, fd, He5.fun_of F, g_law_given⟩
  have D_law_spoilt_row : DefAt K mg "_law_spoilt_row" "_law_spoilt_row" (top 36) := by
    obtain ⟨fd, F⟩ := c.def_ 22 (d := d_law_spoilt_row) rfl
    exact ⟨_, fd, He5.fun_of F, g_law_spoilt_row⟩
  have D_law_graph : DefAt K mg "_law_graph" "_law_graph" (top 37) := by
    obtain ⟨fd, F⟩ := c.def_ 23 (d := d_law_graph) rfl
    exact ⟨_, fd, He5.fun_of F, g_law_graph⟩
  have D_law_all_pairs : DefAt K mg "_law_all_pairs" "_law_all_pairs" (top 38) := by
    obtain ⟨fd, F⟩ := c.def_ 24 (d := d_law_all_pairs) rfl
    exact ⟨_, fd, He5.fun_of F, g_law_all_pairs⟩
  have D_law_table : DefAt K mg "_law_table" "_law_table" (top 39) := by
    obtain ⟨fd, F⟩ := c.def_ 25 (d := d_law_table) rfl
    exact ⟨_, fd, He5.fun_of F, g_law_table⟩
  have D_law_led : DefAt K mg "_law_led" "_law_led" (top 40) := by
    obtain ⟨fd, F⟩ := c.def_ 26 (d := d_law_led) rfl
    exact ⟨_, fd, He5.fun_of F, g_law_led⟩
  have D_law_great_chips : DefAt K mg "_law_great_chips" "_law_great_chips" (top 41) := by
    obtain ⟨fd, F⟩ := c.def_ 27 (d := d_law_great_chips) rfl
    exact ⟨_, fd, He5.fun_of F, g_law_great_chips⟩
  have D_law_told : DefAt K mg "_law_told" "_law_told" (top 42) := by
    obtain ⟨fd, F⟩ := c.def_ 28 (d := d_law_told) rfl
    exact ⟨_, fd, He5.fun_of F, g_law_told⟩
  have D_law_so : DefAt K mg "_law_so" "_law_so" (top 43) := by
    obtain ⟨fd, F⟩ := c.def_ 29 (d := d_law_so) rfl
    exact ⟨_, fd, He5.fun_of F, g_law_so⟩
  have D_law : DefAt K mg "law" "law" (top 44) := by
    obtain ⟨fd, F⟩ := c.def_ 30 (d := d_law) rfl
    exact ⟨_, fd, He5.fun_of F, g_law⟩
  have D_Graph___init__ : MkAt K mg "Graph" (He.ga K "Graph") "__init__" "Graph.__init__" (inClass (top 25) 0) := by
    obtain ⟨fd, F⟩ := c.def_ 31 (d := d_Graph___init__) rfl
    exact ⟨_, fd, He5.fun_of F, k_Graph, g_Graph⟩
  unfold mine at hm
  simp only [Bool.and_eq_true] at hm
  obtain ⟨m1, m2, m3, m4, m5, m6⟩ := hm
  have e0 : SupX.fnC K (He.ma K (He.ga K "BadSum") "__init__") = some ((("__init__" : Str)), ("BadSum.__init__" : Str), defArgs sB, FuncBody.stmts (defBody sB), defScope sB, mainGlobals, builtinsNs) := Option.some.inj (congrArg (fun l : List SupX.FnC => l[0]?) hsv)
  have e1 : SupX.fnC K (He.ma K (He.ga K "BadScript") "__init__") = some ((("__init__" : Str)), ("BadScript.__init__" : Str), defArgs sS, FuncBody.stmts (defBody sS), defScope sS, mainGlobals, builtinsNs) := Option.some.inj (congrArg (fun l : List SupX.FnC => l[1]?) hsv)
  obtain ⟨p1, p2, q1, q2, q3, q4, q5, q6, q7, q8, q9, q10, a1, a2, a3, a4⟩ := formB
  obtain ⟨r1, r2, t1, t2, t3, t4, t5, t6, t7, t8, t9, t10, b1, b2, b3, b4⟩ := formS
  rw [a1, a2, a3] at e0
  rw [b1, b2, b3] at e1
  have TB : SupX.SupTxt PP K mg "BadSum" _ _ := SupX.sup_ok g_BadSum f_super noSuper e0 a4 m1
  have TS : SupX.SupTxt PP K mg "BadScript" _ _ := SupX.sup_ok g_BadScript f_super noSuper e1 b4 m2
  have EC : ErrC K mg (He.ga K "ChipError") (He.ga K "BadSum") (He.ga K "BadScript") := ⟨g_ChipError, f_ValueError, x_BadSum_BadSum, x_BadScript_BadSum, x_BadScript_BadScript, of_decide_eq_true m3, of_decide_eq_true m4, of_decide_eq_true m5, of_decide_eq_true m6⟩
  have B : Bt mg := ⟨f_len, f_int, f_list, f_tuple, f_range, f_isinstance, f_bool, f_str, f_all, f_min, f_max, f_sum, f_enumerate, f_zip, f_sorted, f_repr⟩
  have GC : GraphC K (He.ga K "Graph") := ⟨c_Graph, n_Graph_n, n_Graph_edges, n_Graph_genus, n_Graph_kept⟩
  have h_take := ok_take (P := PP) (w := w) (base := base) D_law_take B
  have h_pick := ok_pick D_law_pick B h_take
  have h_isi := ok_is_integer (P := PP) (w := w) (base := base) D_law_is_integer B
  have h_same := ok_same D_law_same B h_isi 3
  have h_order := ok_order D_law_order B h_take
  have h_given := ok_given D_law_given B h_take
  have h_pairs := ok_all_pairs (P := PP) (w := w) (base := base) (K := K) D_law_all_pairs B
  have h_graph := ok_graph D_law_graph B h_take h_pick h_order h_pairs
  have h_wg := ok_is_whole (P := PP) (w := w) (base := base) D_is_whole_graphs B
  have h_ws := ok_is_whole_s (P := PP) (w := w) (base := base) D_is_whole_sums B
  have h_ef := ok_edge_fault D_edge_fault B h_wg
  have h_tg := ok_together (P := PP) (w := w) (base := base) D_together B
  have mk_G := ok_Graph D_Graph___init__ B GC h_wg h_ef h_tg i_MOST_PLACES i_MOST_EDGES
  have h_beside := ok_beside (P := PP) (w := w) (base := base) memo1_b D_beside B GC
  have h_val := ok_valences D_valences B h_beside
  have h_sent := ok_sent_by D_sent_by B h_beside
  have h_led := ok_led D_led B h_sent
  have h_ts := ok_told_sum (m := memo1) (w := w) (base := base) D_told_sum B GC TB h_ws
  have h_tc := ok_told_script (m := memo1) (w := w) (base := base) D_told_script B GC TS h_ws
  have h_deg := ok_degree D_degree B h_ts
  have h_can := ok_canonical D_canonical B h_val
  have h_fir := ok_fired D_fired B h_ts h_tc h_led
  have h_pool := ok_pool (P := PP) (w := w) (base := base) (K := K) D_law_pool B
  have h_below := ok_below D_law_below B h_take
  have h_power := ok_power (P := PP) (w := w) (base := base) (K := K) D_law_power B
  have h_great := ok_great D_law_great_chips B h_take h_pick h_below h_power
  have h_table := ok_table (P := PP) (w := w) (base := base) (K := K) D_law_table B
  have h_ledT := ok_ledT (P := PP) (w := w) (base := base) (K := K) D_law_led B
  have h_sp := ok_spoilt D_law_spoilt_row B h_take h_pick h_given
  have h_told := ok_told D_law_told B TB TS EC h_deg h_fir
  have h_so := ok_so D_law_so B mk_G h_table h_great h_given h_ledT h_same h_told h_fir h_sp h_pick
  exact ok_law D_law B h_pool h_pick h_graph h_table mk_G h_can h_same h_so
end G3
open PySem PySem.W PySem.Calls PyProof.Rows
theorem PySem.Challenge.cw_chipsproved_k21_sums_and_scripts_holds : PySem.Challenge.rw_chipsproved_k21_sums_and_scripts.Holds := by
  w_on; o_law
  refine HandSHeadRun.head_any (r := OpenLaw.row PySem.Challenge.rw_chipsproved_k21_sums_and_scripts) (q := view (OpenLaw.row PySem.Challenge.rw_chipsproved_k21_sums_and_scripts).prog [44]) (H := G3.hk) (ob := G3.ob) (M := 20000) (loose := G3.loose) (d := HandSHeadRun.topDef (OpenLaw.row PySem.Challenge.rw_chipsproved_k21_sums_and_scripts).prog 44) (kwd := []) G3.ob_eq
    (by kernel_rfl) (fun s => by kernel_rfl) G3.run (by kernel_rfl) (by kernel_rfl) (by kernel_rfl) (by rfl) (by first | assumption | decide +kernel) (by decide +kernel) ⟨rfl, rfl, rfl, rfl, rfl, by decide +kernel⟩ ?hw ?hc
  case hw => w_witness2
  case hc =>
    refine L2.walk_ofG (l := PySem.Challenge.rw_chipsproved_k21_sums_and_scripts) (n := 63) (k := 7) (x := "script") (CX := L2.CX0) rfl (by decide) (by kernel_rfl) ⟨rfl, by decide, by decide⟩ ?F (fun _ _ _ _ z => z)
    intro w mg fa h Y G hmg0
    obtain ⟨K, KX, c⟩ := Y
    have hmg : mg ("law" : PySem.Str) = some (.ref fa) := by
      have e : (HandSHeadRun.topDef (OpenLaw.row PySem.Challenge.rw_chipsproved_k21_sums_and_scripts).prog 44).name = ("law" : PySem.Str) := by kernel_rfl
      rw [← e]
      exact hmg0
    refine ⟨K, G3.spLaw K, KX, fun H a ns hl _ hS => ⟨a, ns, rfl, hS, Nat.le_trans hl (by decide), fun _ => rfl⟩, fun base _ _ => ?_⟩
    obtain ⟨f, fd, F, hm, _, hb⟩ := G3.facts (w := w) KX G c base
    rw [hmg] at hm
    cases hm
    exact ⟨fd, F, hb⟩

