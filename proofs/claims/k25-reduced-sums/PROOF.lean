import PyProof.Rows.All
import Wide.All
import OpenK.AllK
import Wide.FinOn
import KE.KStateDown
import HandS.ForMost
import HandS.More
import HandS.WordsExc
import HandS.Defaults
import HandS.Conv
import HandS.TupAny
import HandS.Wide
import HandS.IsInst
import HandS.Zip
import HandS.Evl
import HandS.Steps
import PySem.Challenge.RW_chipsproved_k25_whole_reduced_sums_of_gr
import KE.KExcSuper
import HandS.Exc
import HandS.TryMany
import HandS.ExcField
import HandS.ExcIs
import HandS.CallSlots
import HandS.HeadWalk
import KE.GoesMore
import KE.GoesEnum
import HandS.Walk
import HandS.DictTup
import HandS.SortRule
import HandS.Strs
import KE.DataMinMax
import HandS.SortInts
import HandS.Ends
import HandS.HeadEnd
import HandS.FStrTup
import HandS.Head0
import HandS.Head1
import HandS.Head2
import HandS.HeadHook1
import HandS.HeadHook2
import HandS.HeadNt
set_option Elab.async false
set_option linter.all false
set_option maxRecDepth 100000
set_option maxHeartbeats 1000000
namespace G3
open PySem PySem.Spec PyProof.Rows L2

/-! ## a def where it stands, and what it promises -/
def DefAt (K : PySem.W.Frag) (mg : Str → Option Value) (x nm : Str) (st : Stmt) : Prop := ∃ f fd, Fun K nm nm st f fd ∧ mg x = some (.ref f)
def Has (P : Program) (w : World) (K : PySem.W.Frag) (mg : Str → Option Value) (base : Heap) (CX : CXT) (k : Nat) (x : Str) (ps : List Str) (sp : Sp) : Prop :=
  ∃ f fd, FnOk P w K mg base CX k f fd ps sp ∧ mg x = some (.ref f) ∧ PySem.W.keepIn K (.ref f) = true ∧ Binds K fd ps []
section
variable {P : Program} {w : World} {K : PySem.W.Frag} {mg : Str → Option Value} {base : Heap} {CX : CXT} {k : Nat} {x : Str} {ps : List Str} {sp : Sp}
theorem Has.imp {sp' : Sp} (h : Has P w K mg base CX k x ps sp) (hs : ∀ vs H Q E, sp' vs H Q E → sp vs H Q E) : Has P w K mg base CX k x ps sp' := by
  obtain ⟨f, fd, F, r⟩ := h
  exact ⟨f, fd, F.imp hs, r⟩
theorem Has.mono {j : Nat} (h : Has P w K mg base CX j x ps sp) (hj : j ≤ k) : Has P w K mg base CX k x ps sp := by
  obtain ⟨f, fd, F, r⟩ := h
  exact ⟨f, fd, F.mono hj, r⟩
theorem has_of {nm : Str} {st : Stmt} {N : List Str} (D : DefAt K mg x nm st) (S : FnScope N ps (defScope st)) 
    (hb : ∀ (kV doc pm : Value) (an : Option Addr) (cdv ct : Value) (us : List Value), us.length = ps.length → bindArgs (PySem.W.fnOf nm nm (defArgs st) (defBody st) (defScope st) .none kV doc pm an cdv ct) ⟨us, []⟩ = pure (ps.zip us))
    (len : ∀ vs H Q E, sp vs H Q E → vs.length = ps.length)
    (hbody : ∀ (f : Addr) (cdv : Value) (A : Around) (outer : List Env) (s : Shared) (H : Hp) (vs : List V) (Q : VK) (E : XK), Room k (A.deeper (envOfC nm (defScope st) s.heap.objs.size f cdv)) → sp vs H Q E →
      ∃ t, PSs (cxOf CX0 P w K mg base N nm (defScope st) f cdv A outer s H E).nox (defBody st) t ∧ t { nx := fun _ H' => Q .non H', rt := Q } (start N vs) H) : Has P w K mg base CX0 (k + 1) x ps sp := by
  obtain ⟨f, fd, F, m⟩ := D
  exact ⟨f, fd, F.ok S len (fun cdv A outer s H vs Q E hr hs => hbody f cdv A outer s H vs Q E hr hs), m, F.kp, F.binds hb⟩
end
theorem pe_h {X : Cx} {CX : CXT} {k j : Nat} {x : Str} {ps : List Str} {sp : Sp} {E : XK} {p pos : Pos} {e : Expr} {es : List Expr} {t : TA} (h : Has X.prog X.w X.K X.mg X.base CX k x ps sp) (hr : Room j X.A) (hx : Passes CX X E)
    (ha : PA X (e :: es) t) (hk : k ≤ j := by first | decide | omega) (hg : Gl X x := by rfl) (hdb : (x == ("__debug__" : Str)) = false := by decide) (he : starEach (e :: es) X.env = (false, eval e X.env) :: starEach es X.env := by rfl) (hpl : (backTo pos (starEach es X.env)).any (·.1) = false := by rfl) :
    PE X (.Call (.Name x p) (e :: es) [] pos) (tCall sp [] E t) := by
  obtain ⟨f, fd, F, m, kp, b⟩ := h
  exact pe_call F (hr.mono hk) hg m kp b .nil hx ha hdb he hpl
/-- a written global number -/
theorem pe_gint {X : Cx} {x : Str} {i : Int} {pos : Pos} (h : ∃ t, X.mg x = some (.int i t)) (hg : Gl X x := by rfl) (hd : (x == ("__debug__" : Str)) = false := by decide) : PE X (.Name x pos) (tC (.int i)) := by
  obtain ⟨t, h⟩ := h
  exact pe_glob hg h ⟨t, rfl⟩ hd

/-! ## tests -/
theorem ifD {p A B : Prop} [Decidable p] (h1 : p → A) (h2 : ¬ p → B) : if decide p = true then A else B := by
  by_cases h : p
  · rw [if_pos (decide_eq_true h)]; exact h1 h
  · rw [if_neg (by simp [h])]; exact h2 h
theorem ifN {p A B : Prop} [Decidable p] (h1 : ¬ p → A) (h2 : p → B) : if (!decide p) = true then A else B := by
  by_cases h : p
  · rw [if_neg (by simp [h])]; exact h2 h
  · rw [if_pos (by simp [h])]; exact h1 h
theorem ifB {b : Bool} {A B : Prop} (h1 : b = true → A) (h2 : b = false → B) : if b = true then A else B := by
  cases b
  · rw [if_neg (by decide)]; exact h2 rfl
  · rw [if_pos rfl]; exact h1 rfl
theorem bl_t {p : Prop} [Decidable p] {Q : VK} {H : Hp} (h : p) (q : Q (.bl true) H) : Q (.bl (decide p)) H := by rw [decide_eq_true h]; exact q

theorem atI_int {α : Type} {xs : List α} {i : Int} {v : α} (h0 : 0 ≤ i) (h : xs[i.toNat]? = some v) : atI xs i = some v := by
  obtain ⟨n, rfl⟩ : ∃ n : Nat, i = n := ⟨i.toNat, by omega⟩
  exact atI_nat (by simpa using h)
theorem getMap {α : Type} {xs : List α} {f : α → V} {i : Nat} (h : i < xs.length) : (xs.map f)[i]? = some (f xs[i]) := by
  rw [List.getElem?_map, List.getElem?_eq_getElem h]; rfl

theorem st_ite {c : TT} {t1 t2 : TS} {D : Ends} {σ : L2.St} {H : Hp} {b : Bool} (h : Ans c σ H b) (h1 : b = true → t1 D σ H) (h2 : b = false → t2 D σ H) : tIfS c t1 t2 D σ H := by
  cases b
  · exact st_no h (h2 rfl)
  · exact st_yes h (h1 rfl)
theorem yes_ {σ : L2.St} {H : Hp} {A B : Hp → Prop} (h : A H) : tYes σ H (fun b H3 => if b = true then A H3 else B H3) := iteT (A := A H) (B := B H) h

/-! ## heaps -/
theorem same_upd {H : Hp} {p : Addr} {o : HO} (h : H p = none) : Same H (upd H p o) := fun b x e => by
  rw [upd_ne (ne_of_none e h)]; exact e
theorem Same.seqT {K : PySem.W.Frag} {H H' : Hp} {a : Addr} {xs : List V} (e : Same H H') (h : SqT K H a xs) : SqT K H' a xs := by
  rcases h with (h | ⟨o, h⟩) | h
  · exact .inl (.inl (e _ _ h))
  · exact .inl (.inr ⟨o, e _ _ h⟩)
  · exact .inr h

/-! ## the pool of a law: a list that only _law_take reads and writes -/
def PoolO (a c : Addr) : HO := .ext fun h => ∃ (i d s : Int) (t1 t2 t3 : Tok) (n : Nat), 0 ≤ i ∧ 0 ≤ d ∧ 0 ≤ s ∧ s < 2147483647 ∧
  h.get? a = some ({ cls := .type "list", data := .seq #[.ref c, .int i t1, .int d t2, .int s t3] n } : Obj)
def poolL (c : Addr) (i d s : Int) : List V := [.ref c, .int i, .int d, .int s]
def PoolAt (H : Hp) (a : Addr) : Prop := ∃ (c : Addr) (ns : List Int), H a = some (PoolO a c) ∧ H c = some (.lst (ns.map V.int)) ∧ ∀ n ∈ ns, (0 : Int) ≤ n
theorem PoolAt.same {H H' : Hp} {a : Addr} (h : PoolAt H a) (e : Same H H') : PoolAt H' a := by
  obtain ⟨c, ns, h1, h2, h3⟩ := h
  exact ⟨c, ns, e _ _ h1, e _ _ h2, h3⟩
theorem ext_own {φ : Heap → Prop} {x : Addr} : HO.ext φ ≠ .own x := fun z => by cases z
theorem ext_tup {φ : Heap → Prop} {xs : List V} : HO.ext φ ≠ .tup xs := fun z => by cases z
theorem lst_own {ys : List V} {x : Addr} : HO.lst ys ≠ .own x := fun z => by cases z
theorem lst_tup {ys xs : List V} : HO.lst ys ≠ .tup xs := fun z => by cases z
/-- what is tracked at a is told otherwise: a list by its ext, or back -/
theorem hok_ghost {P : Program} {w : World} {H : Hp} {h : Heap} {a : Addr} {o o' : HO} (ok : HOk P w H h) (e : H a = some o) (n1 : ∀ x, o ≠ .own x) (n2 : ∀ xs, o ≠ .tup xs) (new : ObjOk P w (upd H a o') h a o') : HOk P w (upd H a o') h := fun b u q => by
  by_cases hb : b = a
  · subst hb; rw [upd_same] at q; cases q; exact new
  · rw [upd_ne hb] at q
    refine (ok b u q).stay (fun _ _ _ z => z) (fun c z => ?_) (fun c xs z => ?_)
    · rw [upd_ne]; exact z
      intro y; subst y; rw [e] at z; exact n1 _ (Option.some.inj z)
    · rw [upd_ne]; exact z
      intro y; subst y; rw [e] at z; exact n2 _ (Option.some.inj z)
theorem pool_open {P : Program} {w : World} {H : Hp} {h : Heap} {a c : Addr} (ok : HOk P w H h) (e : H a = some (PoolO a c)) :
    ∃ i d s : Int, 0 ≤ i ∧ 0 ≤ d ∧ 0 ≤ s ∧ s < 2147483647 ∧ HOk P w (upd H a (.lst (poolL c i d s))) h := by
  obtain ⟨⟨i, d, s, t1, t2, t3, n, h1, h2, h3, h4, ho⟩, _, _⟩ := ok a _ e
  refine ⟨i, d, s, h1, h2, h3, h4, hok_ghost ok e (fun x => ext_own) (fun xs => ext_tup) ⟨by show 4 ≤ sizeLine; decide, [.ref c, .int i t1, .int d t2, .int s t3], n, ?_, ho⟩⟩
  exact .cons rfl (.cons ⟨_, rfl⟩ (.cons ⟨_, rfl⟩ (.cons ⟨_, rfl⟩ .nil)))
theorem pool_close {P : Program} {w : World} {H : Hp} {h : Heap} {a c : Addr} {i d s : Int} (ok : HOk P w H h) (e : H a = some (.lst (poolL c i d s))) (h1 : 0 ≤ i) (h2 : 0 ≤ d) (h3 : 0 ≤ s) (h4 : s < 2147483647) :
    HOk P w (upd H a (PoolO a c)) h := by
  obtain ⟨_, its, n, r, ho⟩ := ok a _ e
  refine hok_ghost ok e (fun x => lst_own) (fun xs => lst_tup) ?_
  cases r with
  | cons r0 r => cases r with
    | cons r1 r => cases r with
      | cons r2 r => cases r with
        | cons r3 r => cases r with
          | nil =>
            obtain rfl := r0
            obtain ⟨t1, rfl⟩ := r1
            obtain ⟨t2, rfl⟩ := r2
            obtain ⟨t3, rfl⟩ := r3
            have ho' : h.get? a = some ({ cls := .type "list", data := .seq #[.ref c, .int i t1, .int d t2, .int s t3] n } : Obj) := ho
            exact ⟨⟨i, d, s, t1, t2, t3, n, h1, h2, h3, h4, ho'⟩, ⟨_, ho'⟩, fun g1 g2 ⟨i', d', s', t1', t2', t3', n', a1, a2, a3, a4, q⟩ k => ⟨i', d', s', t1', t2', t3', n', a1, a2, a3, a4, k _ q⟩⟩
/-- another word for the heap ahead of a call and behind it -/
def Gst (H H1 : Hp) : Prop := (∀ b, H b = none → H1 b = none) ∧ (∀ b xs, H b = some (.tup xs) → H1 b = some (.tup xs)) ∧ (∀ b o u, H b = some (.frz o u) → H1 b = some (.frz o u)) ∧ (∀ b ps, H b = some (.tbl ps) → H1 b = some (.tbl ps))
theorem Gst.upd {H : Hp} {a : Addr} {o o' : HO} (e : H a = some o) (n1 : ∀ xs, o ≠ .tup xs) (n2 : ∀ ob u, o ≠ .frz ob u) (n3 : ∀ ps, o ≠ .tbl ps) : Gst H (L2.upd H a o') := by
  refine ⟨fun b n => ?_, fun b xs q => ?_, fun b ob u q => ?_, fun b ps q => ?_⟩
  · rw [upd_ne]; exact n
    intro z; subst z; rw [e] at n; cases n
  · rw [upd_ne]; exact q
    intro z; subst z; rw [e] at q; exact n1 _ (Option.some.inj q)
  · rw [upd_ne]; exact q
    intro z; subst z; rw [e] at q; exact n2 _ _ (Option.some.inj q)
  · rw [upd_ne]; exact q
    intro z; subst z; rw [e] at q; exact n3 _ (Option.some.inj q)
theorem ghost_call {P : Program} {w : World} {K : PySem.W.Frag} {mg : Str → Option Value} {base : Heap} {k : Nat} {f : Addr} {fd : FuncData} {ps : List Str} {sp sp' : Sp} (F : FnOk P w K mg base CX0 k f fd ps sp) (hlen : ∀ vs H Q E, sp' vs H Q E → vs.length = ps.length)
    (h : ∀ vs H Q E hp, HOk P w H hp → sp' vs H Q E → ∃ H1 Q1 E1, Gst H H1 ∧ HOk P w H1 hp ∧ sp vs H1 Q1 E1 ∧ ∀ v H2 hp2, HOk P w H2 hp2 → Q1 v H2 → ∃ H3, Gst H2 H3 ∧ HOk P w H3 hp2 ∧ Q v H3) : FnOk P w K mg base CX0 k f fd ps sp' := by
  refine ⟨hlen, fun A outer s H args us vs Q E hr e0 hb hv hs => ?_⟩
  obtain ⟨H1, Q1, E1, g, ok1, hs1, back⟩ := h vs H Q E s.heap e0.hok hs
  have e1 : Env0 P w K mg base A outer s H1 := ⟨e0.frames, e0.mod, fun b o q => ⟨(e0.bs b o q).1, g.1 b (e0.bs b o q).2⟩, e0.bsz, e0.funs, fun b hb => g.1 b (e0.frf b hb), ok1, e0.bare⟩
  refine codeAny_mono (F.run A outer s H1 args us vs Q1 E1 hr e1 hb hv hs1) fun r s' hq => ?_
  cases r with
  | error e => exact hq
  | ok fl =>
    cases fl with
    | ret u =>
      obtain ⟨v, H2, os, bare, un, ok2, rv, q1⟩ := hq
      obtain ⟨H3, g3, ok3, q⟩ := back v H2 _ ok2 q1
      refine ⟨v, H3, os, bare, ?_, ok3, rv, q⟩
      exact ⟨fun b o z n => un.keep b o z (g.1 b n), fun b o z n => un.slot b o z (g.1 b n), fun b o z n hx => g3.1 b (un.free b o z (g.1 b n) hx), un.there, fun b xs z => g3.2.1 b xs (un.tups b xs (g.2.1 b xs z)), fun b o u z => g3.2.2.1 b o u (un.frzs b o u (g.2.2.1 b o u z)),
        fun b ps z => by
          obtain ⟨m, z2⟩ := un.tbls b ps (g.2.2.2 b ps z)
          exact ⟨m, g3.2.2.2 b _ z2⟩⟩
    | next => exact hq
    | brk => exact hq
    | cont => exact hq

/-! ## a def that is never called so -/
theorem has_false {P : Program} {w : World} {K : PySem.W.Frag} {mg : Str → Option Value} {base : Heap} {k : Nat} {x nm : Str} {st : Stmt} {ps : List Str} {sp : Sp} (D : DefAt K mg x nm st)
    (hb : ∀ (kV doc pm : Value) (an : Option Addr) (cdv ct : Value) (us : List Value), us.length = ps.length → bindArgs (PySem.W.fnOf nm nm (defArgs st) (defBody st) (defScope st) .none kV doc pm an cdv ct) ⟨us, []⟩ = pure (ps.zip us))
    (h : ∀ vs H Q E, ¬ sp vs H Q E) : Has P w K mg base CX0 k x ps sp := by
  obtain ⟨f, fd, F, m⟩ := D
  exact ⟨f, fd, ⟨fun vs H Q E q => (h _ _ _ _ q).elim, fun _ _ _ H _ _ vs Q E _ _ _ _ q => (h _ _ _ _ q).elim⟩, m, F.kp, F.binds hb⟩

/-! ## data: rows of numbers, and anything at any depth -/
def Row (K : PySem.W.Frag) (H : Hp) (v : V) (xs : List V) : Prop := ∃ a, v = .ref a ∧ (SqL K H a xs ∨ SqT K H a xs)
theorem Row.same {K : PySem.W.Frag} {H H' : Hp} {v : V} {xs : List V} (h : Row K H v xs) (e : Same H H') : Row K H' v xs := by
  obtain ⟨a, rfl, h⟩ := h
  exact ⟨a, rfl, h.elim (fun h => .inl (e.seq h)) (fun h => .inr (Same.seqT e h))⟩
def tyN : PyData → String
  | .none => "NoneType"
  | .bool _ => "bool"
  | .int _ => "int"
  | .str _ => "str"
  | .list _ => "list"
  | .tuple _ => "tuple"
  | .dict _ => "dict"
theorem ty_l {K : PySem.W.Frag} {H : Hp} {a : Addr} {xs : List V} (h : SqL K H a xs) : TyX K H (.ref a) (.type "list") := by
  rcases h with (h | ⟨o, h⟩) | ⟨o, its, n, hk, hc, _⟩
  · exact .base (.lst h)
  · exact .base (.frz h)
  · exact .kList hk hc
theorem ty_t {K : PySem.W.Frag} {H : Hp} {a : Addr} {xs : List V} (h : SqT K H a xs) : TyX K H (.ref a) (.type "tuple") := by
  rcases h with (h | ⟨o, h⟩) | ⟨o, its, n, hk, hc, _⟩
  · exact .base (.tup h)
  · exact .fTuple h
  · exact .kTuple hk hc
theorem Dp.ty {K : PySem.W.Frag} {H : Hp} {v : V} {d : PyData} (h : Dp K H v d) : TyX K H v (.type (tyN d)) := by
  cases h with
  | non => exact .base .non
  | bl b => exact .base (.bl b)
  | int i => exact .base (.int i)
  | str x => exact .base (.str x)
  | lst h _ => exact ty_l h
  | tup h _ => exact ty_t h
mutual
theorem Dp.same {K : PySem.W.Frag} {H H' : Hp} (e : Same H H') : ∀ {v : V} {d : PyData}, Dp K H v d → Dp K H' v d
  | _, _, .non => .non
  | _, _, .bl b => .bl b
  | _, _, .int i => .int i
  | _, _, .str x => .str x
  | _, _, .lst h t => .lst (e.seq h) (DpAll.same e t)
  | _, _, .tup h t => .tup (Same.seqT e h) (DpAll.same e t)
theorem DpAll.same {K : PySem.W.Frag} {H H' : Hp} (e : Same H H') : ∀ {vs : List V} {ds : List PyData}, DpAll K H vs ds → DpAll K H' vs ds
  | _, _, .nil => .nil
  | _, _, .cons h t => .cons (Dp.same e h) (DpAll.same e t)
end
theorem DpAll.len {K : PySem.W.Frag} {H : Hp} : ∀ {vs : List V} {ds : List PyData}, DpAll K H vs ds → vs.length = ds.length
  | _, _, .nil => rfl
  | _, _, .cons _ t => by rw [List.length_cons, List.length_cons, DpAll.len t]
theorem DpAll.get {K : PySem.W.Frag} {H : Hp} : ∀ {vs : List V} {ds : List PyData} {i : Nat}, DpAll K H vs ds → (h : i < ds.length) → ∃ v, vs[i]? = some v ∧ Dp K H v ds[i]
  | _, _, i, .nil, h => absurd h (by simp)
  | _, _, 0, .cons d _, _ => ⟨_, rfl, d⟩
  | _, _, i + 1, .cons _ t, h => by
    obtain ⟨v, e, d⟩ := DpAll.get (i := i) t (by simpa using h)
    exact ⟨v, by simpa using e, d⟩
theorem dpAll_ints {K : PySem.W.Frag} {H : Hp} : ∀ ns : List Int, DpAll K H (ns.map V.int) (ns.map PyData.int)
  | [] => .nil
  | n :: r => .cons (.int n) (dpAll_ints r)
theorem DpAll.app {K : PySem.W.Frag} {H : Hp} : ∀ {vs ws : List V} {ds es : List PyData}, DpAll K H vs ds → DpAll K H ws es → DpAll K H (vs ++ ws) (ds ++ es)
  | _, _, _, _, .nil, t => t
  | _, _, _, _, .cons h r, t => .cons h (DpAll.app r t)
theorem kt_int {K : PySem.W.Frag} (d : PyData) : PySem.W.kitOne K (.type (tyN d)) (.type "int") = some (match d with | .int _ => true | .bool _ => true | _ => false) := by
  cases d with
  | none => exact kit_ty (a := "NoneType") (b := "int") (r := false) (by decide +kernel)
  | bool => exact kit_ty (a := "bool") (b := "int") (r := true) (by decide +kernel)
  | int => exact kit_ty (a := "int") (b := "int") (r := true) (by decide +kernel)
  | str => exact kit_ty (a := "str") (b := "int") (r := false) (by decide +kernel)
  | list => exact kit_ty (a := "list") (b := "int") (r := false) (by decide +kernel)
  | tuple => exact kit_ty (a := "tuple") (b := "int") (r := false) (by decide +kernel)
  | dict => exact kit_ty (a := "dict") (b := "int") (r := false) (by decide +kernel)
theorem kt_bool {K : PySem.W.Frag} (d : PyData) : PySem.W.kitOne K (.type (tyN d)) (.type "bool") = some (match d with | .bool _ => true | _ => false) := by
  cases d with
  | none => exact kit_ty (a := "NoneType") (b := "bool") (r := false) (by decide +kernel)
  | bool => exact kit_ty (a := "bool") (b := "bool") (r := true) (by decide +kernel)
  | int => exact kit_ty (a := "int") (b := "bool") (r := false) (by decide +kernel)
  | str => exact kit_ty (a := "str") (b := "bool") (r := false) (by decide +kernel)
  | list => exact kit_ty (a := "list") (b := "bool") (r := false) (by decide +kernel)
  | tuple => exact kit_ty (a := "tuple") (b := "bool") (r := false) (by decide +kernel)
  | dict => exact kit_ty (a := "dict") (b := "bool") (r := false) (by decide +kernel)
theorem kt_str {K : PySem.W.Frag} (d : PyData) : PySem.W.kitOne K (.type (tyN d)) (.type "str") = some (match d with | .str _ => true | _ => false) := by
  cases d with
  | none => exact kit_ty (a := "NoneType") (b := "str") (r := false) (by decide +kernel)
  | bool => exact kit_ty (a := "bool") (b := "str") (r := false) (by decide +kernel)
  | int => exact kit_ty (a := "int") (b := "str") (r := false) (by decide +kernel)
  | str => exact kit_ty (a := "str") (b := "str") (r := true) (by decide +kernel)
  | list => exact kit_ty (a := "list") (b := "str") (r := false) (by decide +kernel)
  | tuple => exact kit_ty (a := "tuple") (b := "str") (r := false) (by decide +kernel)
  | dict => exact kit_ty (a := "dict") (b := "str") (r := false) (by decide +kernel)
theorem kt_tuple {K : PySem.W.Frag} (d : PyData) : PySem.W.kitOne K (.type (tyN d)) (.type "tuple") = some (match d with | .tuple _ => true | _ => false) := by
  cases d with
  | none => exact kit_ty (a := "NoneType") (b := "tuple") (r := false) (by decide +kernel)
  | bool => exact kit_ty (a := "bool") (b := "tuple") (r := false) (by decide +kernel)
  | int => exact kit_ty (a := "int") (b := "tuple") (r := false) (by decide +kernel)
  | str => exact kit_ty (a := "str") (b := "tuple") (r := false) (by decide +kernel)
  | list => exact kit_ty (a := "list") (b := "tuple") (r := false) (by decide +kernel)
  | tuple => exact kit_ty (a := "tuple") (b := "tuple") (r := true) (by decide +kernel)
  | dict => exact kit_ty (a := "dict") (b := "tuple") (r := false) (by decide +kernel)
theorem kt_list {K : PySem.W.Frag} (d : PyData) : PySem.W.kitOne K (.type (tyN d)) (.type "list") = some (match d with | .list _ => true | _ => false) := by
  cases d with
  | none => exact kit_ty (a := "NoneType") (b := "list") (r := false) (by decide +kernel)
  | bool => exact kit_ty (a := "bool") (b := "list") (r := false) (by decide +kernel)
  | int => exact kit_ty (a := "int") (b := "list") (r := false) (by decide +kernel)
  | str => exact kit_ty (a := "str") (b := "list") (r := false) (by decide +kernel)
  | list => exact kit_ty (a := "list") (b := "list") (r := true) (by decide +kernel)
  | tuple => exact kit_ty (a := "tuple") (b := "list") (r := false) (by decide +kernel)
  | dict => exact kit_ty (a := "dict") (b := "list") (r := false) (by decide +kernel)
theorem tyx_same {K : PySem.W.Frag} {H H' : Hp} {x : V} {t : String} (e : Same H H') (ty : TyX K H x (.type t)) : TyX K H' x (.type t) := by
  cases ty with
  | base h => cases h with
    | non => exact .base .non
    | bl b => exact .base (.bl b)
    | int b => exact .base (.int b)
    | str b => exact .base (.str b)
    | flt b => exact .base (.flt b)
    | lst h => exact .base (.lst (e _ _ h))
    | frz h => exact .base (.frz (e _ _ h))
    | tup h => exact .base (.tup (e _ _ h))
    | dK h => exact .base (.dK (e _ _ h))
    | dT h => exact .base (.dT (e _ _ h))
  | byt b => exact .byt b
  | set h => exact .set (e _ _ h)
  | kList h c => exact .kList h c
  | kTuple h c => exact .kTuple h c
  | kDict h c => exact .kDict h c
  | fTuple h => exact .fTuple (e _ _ h)
  | fDict h => exact .fDict (e _ _ h)
def isSeqD : PyData → Bool
  | .list _ => true
  | .tuple _ => true
  | _ => false
theorem kt_tl {K : PySem.W.Frag} (d : PyData) : PySem.W.kitAny K (.type (tyN d)) [.type "tuple", .type "list"] = some (isSeqD d) := by
  refine kitAny_cons (kt_tuple d) (fun h1 => kitAny_cons (kt_list d) (fun h2 => ?_) (fun h2 => ?_)) (fun h1 => ?_)
  · cases d <;> first | rfl | exact absurd (show true = false from h2) (by decide) | exact absurd (show false = true from h2) (by decide) | exact absurd (show true = false from h1) (by decide) | exact absurd (show false = true from h1) (by decide)
  · cases d <;> first | rfl | exact absurd (show true = false from h2) (by decide) | exact absurd (show false = true from h2) (by decide) | exact absurd (show true = false from h1) (by decide) | exact absurd (show false = true from h1) (by decide)
  · cases d <;> first | rfl | exact absurd (show false = true from h1) (by decide)
def isI : V → Bool
  | .int _ => true
  | _ => false

/-- data that nests fewer than n deep, in rows of no great length -/
def Fit : Nat → PyData → Prop
  | 0, _ => False
  | n + 1, .list ds => ds.length ≤ 100000 ∧ ∀ d ∈ ds, Fit n d
  | n + 1, .tuple ds => ds.length ≤ 100000 ∧ ∀ d ∈ ds, Fit n d
  | _ + 1, .dict _ => False
  | _ + 1, _ => True
theorem fit_ints {n : Nat} {ns : List Int} : ∀ d ∈ ns.map PyData.int, Fit (n + 1) d := fun d h => by
  obtain ⟨z, _, rfl⟩ := List.mem_map.mp h
  exact True.intro
theorem size_le {n : Nat} (h : n ≤ 100000) : n ≤ sizeLine := Nat.le_trans h (by decide)
theorem size_lt {n : Nat} (h : n < 100000) : n < sizeLine := Nat.lt_of_lt_of_le h (by decide)
theorem len_rep {n : Nat} {b : Bool} : ((List.replicate n b).map V.bl).length = n := by rw [List.length_map, List.length_replicate]
theorem all_rep {n : Nat} : (List.replicate n true).all id = true := by
  rw [List.all_eq_true]
  intro x hx
  rw [List.eq_of_mem_replicate hx]; rfl
theorem same_mut {H H' : Hp} {p : Addr} {o : HO} (e : Same H H') (h : H p = none) : Same H (upd H' p o) := fun b x z => by
  rw [upd_ne (ne_of_none z h)]; exact e _ _ z

/-! ## rules with the written part named (for use within a block) -/
section
variable {X : Cx} {K : PySem.W.Frag}
theorem ixL (h : X.K = K) : IxR X (rIxL K) := h ▸ ix_list
theorem ixT (h : X.K = K) : IxR X (rIxT K) := h ▸ ix_tup
theorem ixQ (h : X.K = K) : IxR X (rIx K) := h ▸ ix_seq
def rLenK (K : PySem.W.Frag) : List V → Hp → VK → Prop := fun xs H Q => ∃ x n, xs = [x] ∧ LenV K x H n ∧ Q (.int n) H
theorem lenK (h : X.K = K) : CallR X (.builtin "len") (rLenK K) := by subst h; exact call_len
theorem isiK (h : X.K = K) : CallR X (.builtin "isinstance") (rIsi K) := h ▸ call_isi
theorem isiTK (h : X.K = K) : CallR X (.builtin "isinstance") (rIsiT K) := h ▸ call_isiT
def rListK (K : PySem.W.Frag) : List V → Hp → VK → Prop := fun xs H Q => ∃ p ys, xs = [.ref p] ∧ (SqL K H p ys ∨ SqT K H p ys) ∧ ∀ l, H l = none → Q (.ref l) (upd H l (.lst ys))
theorem listK (h : X.K = K) : CallR X (.type "list") (rListK K) := by subst h; exact call_list_of
def rTupK (K : PySem.W.Frag) : List V → Hp → VK → Prop := fun xs H Q => ∃ p ys, xs = [.ref p] ∧ ((SqL K H p ys ∧ ∀ l, H l = none → Q (.ref l) (upd H l (.tup ys))) ∨ (SqT K H p ys ∧ Q (.ref p) H))
theorem tupK (h : X.K = K) : CallR X (.type "tuple") (rTupK K) := by subst h; exact call_tuple_of
theorem sumK (hc : X.calm = true) (h : X.K = K) : CallR X (.builtin "sum") (rSum K) := h ▸ cr_sum hc
theorem allK (hc : X.calm = true) (h : X.K = K) : CallR X (.builtin "all") (rAll K) := h ▸ cr_all hc
theorem anyK (hc : X.calm = true) (h : X.K = K) : CallR X (.builtin "any") (rAny K) := h ▸ cr_any hc
theorem slL (h : X.K = K) : SlR X (rSlL K) := h ▸ sl_list
theorem slT (h : X.K = K) : SlR X (rSlA K) := h ▸ sl_tupA
theorem inK (h : X.K = K) : OpR X (compareOp .In) (rIn K false) := h ▸ op_in_seq
theorem ninK (h : X.K = K) : OpR X (compareOp .NotIn) (rIn K true) := h ▸ op_notIn_seq
theorem catK (h : X.K = K) : OpR X (binaryOp .Add) (rCatA K) := h ▸ op_catA
theorem piL (h : X.K = K) {tg l : Expr} {tl : TE} (hl : PE X l tl) : PI X tg l (iList K tl) := by subst h; exact pi_list hl
theorem piT (h : X.K = K) {tg l : Expr} {tl : TE} (hl : PE X l tl) : PI X tg l (iTup K tl) := by subst h; exact pi_tup hl
theorem pgT (h : X.K = K) {es : List Expr} {k : Nat} {t : TGs} {n : Nat} {pos : Pos} (hc : X.calm = true) (hp : PGs X es t) (hst : (assignEach es X.env).findIdx? (·.1) = none := by rfl) (hn : (assignEach es X.env).length = n := by rfl) : PG X (.Tuple es k pos) (gTup K n t) := by
  subst h; subst hn
  exact pg_tup hc hp rfl hst
theorem fldK (h : X.K = K) {e : Expr} {f : Str} {ta : TE} {pos : Pos} (he : PE X e ta) (hb : attributeBase e f X.env (eval e X.env) = eval e X.env) : PE X (.Attribute e f pos) (tFld K ta f) := by subst h; exact pe_fld he hb
end
end G3

set_option Elab.async false
set_option linter.all false
set_option maxRecDepth 100000
set_option maxHeartbeats 1000000
namespace G3
/-! ## plain: sums over numbers -/
def sumI (n : Nat) (f : Nat → Int) : Int := ((List.range n).map f).sum
theorem sumI_succ {n : Nat} {f : Nat → Int} : sumI (n + 1) f = sumI n f + f n := by
  unfold sumI
  rw [List.range_succ, List.map_append, List.sum_append]
  show _ + (f n + 0) = _
  omega
theorem sumI_congr {n : Nat} {f g : Nat → Int} (h : ∀ i, i < n → f i = g i) : sumI n f = sumI n g := by
  unfold sumI
  rw [List.map_congr_left fun i hi => h i (List.mem_range.mp hi)]
theorem sumI_z {n : Nat} : sumI n (fun _ => 0) = 0 := by
  induction n with
  | zero => rfl
  | succ n ih => rw [sumI_succ, ih]; rfl
theorem sumI_zero {n : Nat} {f : Nat → Int} (h : ∀ i, i < n → f i = 0) : sumI n f = 0 := (sumI_congr h).trans sumI_z
theorem sumI_add {n : Nat} {f g : Nat → Int} : sumI n (fun i => f i + g i) = sumI n f + sumI n g := by
  induction n with
  | zero => rfl
  | succ n ih => rw [sumI_succ, sumI_succ, sumI_succ, ih]; omega
theorem sumI_mul {n : Nat} {f : Nat → Int} {c : Int} : sumI n (fun i => c * f i) = c * sumI n f := by
  induction n with
  | zero => show (0 : Int) = c * 0; rw [Int.mul_zero]
  | succ n ih => rw [sumI_succ, sumI_succ, ih, Int.mul_add]
theorem sumI_mulr {n : Nat} {f : Nat → Int} {c : Int} : sumI n (fun i => f i * c) = sumI n f * c := by
  rw [sumI_congr fun i _ => Int.mul_comm (f i) c, sumI_mul, Int.mul_comm]
theorem sumI_neg {n : Nat} {f : Nat → Int} : sumI n (fun i => - f i) = - sumI n f := by
  induction n with
  | zero => rfl
  | succ n ih => rw [sumI_succ, sumI_succ, ih]; omega
theorem sumI_sub {n : Nat} {f g : Nat → Int} : sumI n (fun i => f i - g i) = sumI n f - sumI n g := by
  induction n with
  | zero => rfl
  | succ n ih => rw [sumI_succ, sumI_succ, sumI_succ, ih]; omega
theorem sumI_one {n : Nat} {c : Int} : sumI n (fun _ => c) = (n : Int) * c := by
  induction n with
  | zero => show (0 : Int) = ((0 : Nat) : Int) * c; rw [Int.natCast_zero, Int.zero_mul]
  | succ n ih =>
    have : (((n + 1 : Nat)) : Int) = (n : Int) + 1 := by omega
    rw [sumI_succ, ih, this, Int.add_mul, Int.one_mul]
theorem sumI_delta {n v : Nat} {f : Nat → Int} (h : v < n) : sumI n (fun u => if u = v then f u else 0) = f v := by
  induction n with
  | zero => omega
  | succ n ih =>
    rw [sumI_succ]
    by_cases c : v = n
    · subst c
      rw [if_pos rfl, sumI_zero fun i hi => if_neg (by omega), Int.zero_add]
    · rw [if_neg (fun z => c z.symm), ih (by omega), Int.add_zero]
theorem sumI_swap {a b : Nat} {f : Nat → Nat → Int} : sumI a (fun i => sumI b fun j => f i j) = sumI b fun j => sumI a fun i => f i j := by
  induction a with
  | zero => exact (sumI_zero fun _ _ => rfl).symm
  | succ a ih =>
    rw [sumI_succ, ih, ← sumI_add]
    exact sumI_congr fun j _ => sumI_succ.symm
theorem sumI_list {α : Type} {l : List α} {d : α} {f : α → Int} : sumI l.length (fun i => f (l.getD i d)) = (l.map f).sum := by
  unfold sumI
  congr 1
  refine List.ext_getElem (by rw [List.length_map, List.length_map, List.length_range]) fun i h1 h2 => ?_
  rw [List.getElem_map, List.getElem_map, List.getElem_range]
  rw [List.length_map] at h2
  rw [List.getD_eq_getElem?_getD, List.getElem?_eq_getElem h2]; rfl
theorem sumI_front {n : Nat} {f : Nat → Int} : sumI (n + 1) f = f 0 + sumI n fun i => f (i + 1) := by
  induction n with
  | zero => rw [sumI_succ]; show (0 : Int) + f 0 = f 0 + 0; omega
  | succ n ih => rw [sumI_succ, ih, sumI_succ (f := fun i => f (i + 1))]; omega
theorem sumI_nonneg {n : Nat} {f : Nat → Int} (h : ∀ i, i < n → 0 ≤ f i) : 0 ≤ sumI n f := by
  induction n with
  | zero => exact Int.le_refl 0
  | succ n ih => rw [sumI_succ]; have := ih fun i hi => h i (by omega); have := h n (by omega); omega
theorem sumI_le {n : Nat} {f g : Nat → Int} (h : ∀ i, i < n → f i ≤ g i) : sumI n f ≤ sumI n g := by
  induction n with
  | zero => exact Int.le_refl 0
  | succ n ih => rw [sumI_succ, sumI_succ]; have := ih fun i hi => h i (by omega); have := h n (by omega); omega
theorem sumI_abs {n : Nat} {f : Nat → Int} {g : Nat → Nat} (h : ∀ i, i < n → (f i).natAbs ≤ g i) : (sumI n f).natAbs ≤ ((List.range n).map g).sum := by
  induction n with
  | zero => exact Nat.le_refl 0
  | succ n ih =>
    rw [sumI_succ, List.range_succ, List.map_append, List.sum_append]
    have h1 := ih fun i hi => h i (by omega)
    have h2 := h n (by omega)
    have h3 := Int.natAbs_add_le (sumI n f) (f n)
    show _ ≤ _ + (g n + 0)
    omega
/-! ## plain: determinants -/
def skipC (i j : Nat) : Nat := if j < i then j else j + 1
def sg (j : Nat) : Int := if j % 2 = 0 then 1 else -1
theorem sg_succ {j : Nat} : sg (j + 1) = - sg j := by
  unfold sg
  by_cases h : j % 2 = 0
  · rw [if_pos h, if_neg (by omega)]
  · rw [if_neg h, if_pos (by omega)]; rfl
theorem sg_abs {j : Nat} : (sg j).natAbs = 1 := by
  unfold sg; split <;> rfl
def minorC (M : Nat → Nat → Int) (j : Nat) : Nat → Nat → Int := fun r c => M (r + 1) (skipC j c)
def det : Nat → (Nat → Nat → Int) → Int
  | 0, _ => 1
  | n + 1, M => sumI (n + 1) fun j => sg j * M 0 j * det n (minorC M j)
def setRow (M : Nat → Nat → Int) (k : Nat) (x : Nat → Int) : Nat → Nat → Int := fun r c => if r = k then x c else M r c
theorem skip_lt {n j c : Nat} (hc : c < n) : skipC j c < n + 1 := by unfold skipC; split <;> omega
theorem det_congr : ∀ {n : Nat} {M N : Nat → Nat → Int}, (∀ r c, r < n → c < n → M r c = N r c) → det n M = det n N
  | 0, _, _, _ => rfl
  | n + 1, M, N, h => by
    unfold det
    refine sumI_congr fun j hj => ?_
    rw [h 0 j (by omega) hj, det_congr (M := minorC M j) (N := minorC N j) fun r c hr hc => h _ _ (by omega) (skip_lt hc)]
theorem minor_set {M : Nat → Nat → Int} {k j : Nat} {x : Nat → Int} : minorC (setRow M (k + 1) x) j = setRow (minorC M j) k fun c => x (skipC j c) := by
  funext r c
  unfold minorC setRow
  by_cases h : r = k
  · rw [if_pos h, if_pos (by omega)]
  · rw [if_neg h, if_neg (by omega)]
theorem minor_set0 {M : Nat → Nat → Int} {j : Nat} {x : Nat → Int} : minorC (setRow M 0 x) j = minorC M j := by
  funext r c
  unfold minorC setRow
  rw [if_neg (by omega)]
theorem det_lin : ∀ {n : Nat} {M : Nat → Nat → Int} {k : Nat} {a : Int} {x y : Nat → Int}, k < n → det n (setRow M k fun c => a * x c + y c) = a * det n (setRow M k x) + det n (setRow M k y)
  | n + 1, M, 0, a, x, y, _ => by
    unfold det
    rw [← sumI_mul, ← sumI_add]
    refine sumI_congr fun j hj => ?_
    rw [minor_set0, minor_set0, minor_set0]
    show sg j * (a * x j + y j) * det n (minorC M j) = a * (sg j * x j * det n (minorC M j)) + sg j * y j * det n (minorC M j)
    rw [Int.mul_add, Int.add_mul, Int.mul_left_comm (sg j) a, Int.mul_assoc a]
  | n + 1, M, k + 1, a, x, y, h => by
    unfold det
    rw [← sumI_mul, ← sumI_add]
    refine sumI_congr fun j hj => ?_
    rw [minor_set, minor_set, minor_set, det_lin (k := k) (a := a) (x := fun c => x (skipC j c)) (y := fun c => y (skipC j c)) (by omega)]
    have e : ∀ z : Nat → Int, setRow M (k + 1) z 0 j = M 0 j := fun z => if_neg (by omega)
    rw [e, e, e, Int.mul_add, Int.mul_left_comm]
theorem det_zeroRow {n : Nat} {M : Nat → Nat → Int} {k : Nat} (hk : k < n) : det n (setRow M k fun _ => 0) = 0 := by
  have h := det_lin (M := M) (k := k) (a := 1) (x := fun _ => 0) (y := fun _ => 0) hk
  have e : (fun _ : Nat => (1 : Int) * 0 + 0) = fun _ => 0 := rfl
  rw [e] at h
  omega
theorem det_scale {n : Nat} {M : Nat → Nat → Int} {k : Nat} {a : Int} {x : Nat → Int} (hk : k < n) : det n (setRow M k fun c => a * x c) = a * det n (setRow M k x) := by
  have h := det_lin (M := M) (k := k) (a := a) (x := x) (y := fun _ => 0) hk
  rw [det_zeroRow hk, Int.add_zero] at h
  rw [← h]
  refine det_congr fun r c _ _ => ?_
  unfold setRow
  split
  · show a * x c = a * x c + 0
    omega
  · rfl
theorem det_add {n : Nat} {M : Nat → Nat → Int} {k : Nat} {x y : Nat → Int} (hk : k < n) : det n (setRow M k fun c => x c + y c) = det n (setRow M k x) + det n (setRow M k y) := by
  have h := det_lin (M := M) (k := k) (a := 1) (x := x) (y := y) hk
  rw [Int.one_mul] at h
  rw [← h]
  refine det_congr fun r c _ _ => ?_
  unfold setRow
  split
  · show x c + y c = 1 * x c + y c
    omega
  · rfl
theorem skip_comm {i j c : Nat} (h : j < i) : skipC i (skipC j c) = skipC j (skipC (i - 1) c) := by
  have e : ∀ a b : Nat, skipC a b = if b < a then b else b + 1 := fun _ _ => rfl
  rcases Nat.lt_or_ge c j with h1 | h1
  · rw [e j c, if_pos h1, e i c, if_pos (by omega), e (i - 1) c, if_pos (by omega), e j c, if_pos h1]
  · rw [e j c, if_neg (by omega)]
    rcases Nat.lt_or_ge (c + 1) i with h2 | h2
    · rw [e i (c + 1), if_pos h2, e (i - 1) c, if_pos (by omega), e j c, if_neg (by omega)]
    · rw [e i (c + 1), if_neg (by omega), e (i - 1) c, if_neg (by omega), e j (c + 1), if_neg (by omega)]
/-- a sum over two that cancels -/
theorem sum_cancel {n : Nat} {f : Nat → Nat → Int} (h : ∀ i j, j < i → i < n + 1 → f i j = - f j (i - 1)) : sumI (n + 1) (fun i => sumI n fun j => f i j) = 0 := by
  have e : ∀ i j, f i j = (if j < i then f i j else 0) + (if i ≤ j then f i j else 0) := fun i j => by
    by_cases c : j < i
    · rw [if_pos c, if_neg (by omega), Int.add_zero]
    · rw [if_neg c, if_pos (by omega), Int.zero_add]
  have e1 : sumI (n + 1) (fun i => sumI n fun j => f i j) = sumI (n + 1) (fun i => sumI n fun j => if j < i then f i j else 0) + sumI (n + 1) (fun i => sumI n fun j => if i ≤ j then f i j else 0) := by
    rw [← sumI_add]
    refine sumI_congr fun i _ => ?_
    rw [← sumI_add]
    exact sumI_congr fun j _ => e i j
  have e2 : sumI (n + 1) (fun i => sumI n fun j => if i ≤ j then f i j else 0) = sumI n (fun i => sumI n fun j => if i ≤ j then f i j else 0) := by
    rw [sumI_succ, sumI_zero (n := n) (f := fun j => if n ≤ j then f n j else 0) fun j hj => if_neg (by omega), Int.add_zero]
  have e3 : sumI (n + 1) (fun i => sumI n fun j => if j < i then f i j else 0) = - sumI n (fun i => sumI n fun j => if i ≤ j then f i j else 0) := by
    rw [sumI_front, sumI_zero (n := n) (f := fun j => if j < 0 then f 0 j else 0) fun j hj => if_neg (by omega), Int.zero_add, sumI_swap, ← sumI_neg]
    refine sumI_congr fun j hj => ?_
    rw [← sumI_neg]
    refine sumI_congr fun i hi => ?_
    by_cases c : j ≤ i
    · rw [if_pos (by omega), if_pos c, h (i + 1) j (by omega) (by omega)]; rfl
    · rw [if_neg (by omega), if_neg c]; rfl
  rw [e1, e2, e3]; omega
theorem sg_add {i j : Nat} : sg i * sg j = sg (i + j) := by
  unfold sg
  by_cases a : i % 2 = 0 <;> by_cases b : j % 2 = 0
  · rw [if_pos a, if_pos b, if_pos (by omega)]; rfl
  · rw [if_pos a, if_neg b, if_neg (by omega)]; rfl
  · rw [if_neg a, if_pos b, if_neg (by omega)]; rfl
  · rw [if_neg a, if_neg b, if_pos (by omega)]; rfl
theorem det_two {n : Nat} {M : Nat → Nat → Int} (h : ∀ c, M 0 c = M 1 c) : det (n + 2) M = 0 := by
  rw [det]
  have e : ∀ i, i < n + 2 → sg i * M 0 i * det (n + 1) (minorC M i) = sumI (n + 1) fun j => sg (i + j) * (M 0 i * M 0 (skipC i j)) * det n (minorC (minorC M i) j) := fun i _ => by
    rw [det, ← sumI_mul]
    refine sumI_congr fun j _ => ?_
    have e0 : minorC M i 0 j = M 0 (skipC i j) := (h _).symm
    rw [e0, ← sg_add]
    generalize det n (minorC (minorC M i) j) = d
    simp only [Int.mul_assoc, Int.mul_left_comm, Int.mul_comm]
  rw [sumI_congr e]
  refine sum_cancel fun i j hj hi => ?_
  have e1 : skipC i j = j := if_pos hj
  have e2 : skipC j (i - 1) = i := by unfold skipC; rw [if_neg (by omega)]; omega
  have e3 : minorC (minorC M i) j = minorC (minorC M j) (i - 1) := by
    funext r c
    show M (r + 1 + 1) (skipC i (skipC j c)) = M (r + 1 + 1) (skipC j (skipC (i - 1) c))
    rw [skip_comm hj]
  have e4 : sg (i + j) = - sg (j + (i - 1)) := by
    rw [← sg_succ]; congr 1; omega
  rw [e1, e2, e3, e4, Int.mul_comm (M 0 j) (M 0 i), Int.neg_mul, Int.neg_mul]
theorem setRow_set {M : Nat → Nat → Int} {i k : Nat} {x y : Nat → Int} (h : i ≠ k) : setRow (setRow M i x) k y = setRow (setRow M k y) i x := by
  funext r c
  unfold setRow
  by_cases a : r = k
  · rw [if_pos a, if_neg (by omega), if_pos a]
  · rw [if_neg a]
    by_cases b : r = i
    · rw [if_pos b, if_pos b]
    · rw [if_neg b, if_neg b, if_neg a]
theorem setRow_self {M : Nat → Nat → Int} {k : Nat} : setRow M k (M k) = M := by
  funext r c
  unfold setRow
  split
  · rename_i h; rw [h]
  · rfl
/-- two first rows exchanged -/
theorem det_swap01 {n : Nat} {M : Nat → Nat → Int} {x y : Nat → Int} : det (n + 2) (setRow (setRow M 0 x) 1 y) = - det (n + 2) (setRow (setRow M 0 y) 1 x) := by
  have z : ∀ v : Nat → Int, det (n + 2) (setRow (setRow M 0 v) 1 v) = 0 := fun v => det_two fun c => rfl
  have h1 := z fun c => x c + y c
  have sw : ∀ u v : Nat → Int, setRow (setRow M 0 u) 1 v = setRow (setRow M 1 v) 0 u := fun u v => setRow_set (by omega)
  rw [det_add (by omega), sw, sw, det_add (by omega), det_add (by omega), ← sw, ← sw, ← sw, ← sw, z x, z y] at h1
  omega
theorem det_alt : ∀ {n : Nat} {M : Nat → Nat → Int} {i k : Nat}, i < k → k < n → (∀ c, M i c = M k c) → det n M = 0
  | 0, _, _, _, _, h, _ => by omega
  | n + 1, M, i + 1, 0, h, _, _ => by omega
  | n + 1, M, i + 1, k + 1, h1, h2, h => by
    unfold det
    refine sumI_zero fun j _ => ?_
    rw [det_alt (M := minorC M j) (i := i) (k := k) (by omega) (by omega) fun c => h _, Int.mul_zero]
  | 1, M, 0, k, h1, h2, h => by omega
  | n + 2, M, 0, 1, _, _, h => det_two h
  | n + 2, M, 0, k + 2, h1, h2, h => by
    have e : M = setRow (setRow M 0 (M 0)) 1 (M 1) := by rw [setRow_self, setRow_self]
    rw [e, det_swap01]
    have : det (n + 2) (setRow (setRow M 0 (M 1)) 1 (M 0)) = 0 := by
      rw [det]
      refine sumI_zero fun j _ => ?_
      rw [det_alt (n := n + 1) (M := minorC (setRow (setRow M 0 (M 1)) 1 (M 0)) j) (i := 0) (k := k + 1) (by omega) (by omega) fun c => ?_, Int.mul_zero]
      show setRow (setRow M 0 (M 1)) 1 (M 0) 1 (skipC j c) = setRow (setRow M 0 (M 1)) 1 (M 0) (k + 2) (skipC j c)
      unfold setRow
      rw [if_pos rfl, if_neg (by omega), if_neg (by omega)]
      exact h _
    rw [this]; rfl
theorem det_alt' {n : Nat} {M : Nat → Nat → Int} {i k : Nat} (h : i ≠ k) (hi : i < n) (hk : k < n) (e : ∀ c, M i c = M k c) : det n M = 0 := by
  rcases Nat.lt_or_gt_of_ne h with z | z
  · exact det_alt z hk e
  · exact det_alt z hi fun c => (e c).symm
theorem det_comb {n : Nat} {M : Nat → Nat → Int} {k : Nat} (hk : k < n) : ∀ {m : Nat} {u : Nat → Int} {R : Nat → Nat → Int}, det n (setRow M k fun c => sumI m fun l => u l * R l c) = sumI m fun l => u l * det n (setRow M k (R l))
  | 0, u, R => det_zeroRow hk
  | m + 1, u, R => by
    rw [sumI_succ, ← det_comb hk (m := m), Int.add_comm, ← det_lin hk]
    refine det_congr fun r c _ _ => ?_
    unfold setRow
    split
    · show sumI (m + 1) (fun l => u l * R l c) = u m * R m c + sumI m fun l => u l * R l c
      rw [sumI_succ, Int.add_comm]
    · rfl
/-- Cramer -/
theorem cramer {n : Nat} {M : Nat → Nat → Int} {u v : Nat → Int} {k : Nat} (hk : k < n) (h : ∀ c, c < n → sumI n (fun l => u l * M l c) = v c) : u k * det n M = det n (setRow M k v) := by
  have e : det n (setRow M k v) = det n (setRow M k fun c => sumI n fun l => u l * M l c) := det_congr fun r c _ hc => by
    unfold setRow
    split
    · exact (h c hc).symm
    · rfl
  rw [e, det_comb hk, sumI_congr (g := fun l => if l = k then u l * det n M else 0) fun l hl => by
    by_cases c : l = k
    · rw [if_pos c, c, setRow_self]
    · rw [if_neg c, det_alt' (M := setRow M k (M l)) (i := l) (k := k) c hl hk fun d => by
        unfold setRow
        rw [if_neg c, if_pos rfl], Int.mul_zero]]
  exact (sumI_delta (f := fun l => u l * det n M) hk).symm
/-- the last row is a unit -/
theorem det_last : ∀ {n : Nat} {M : Nat → Nat → Int}, (∀ c, c < n + 1 → M n c = if c = n then 1 else 0) → det (n + 1) M = det n M
  | 0, M, h => by
    unfold det
    rw [sumI_succ]
    show (0 : Int) + sg 0 * M 0 0 * 1 = 1
    rw [h 0 (by omega)]; rfl
  | n + 1, M, h => by
    rw [det, sumI_succ]
    have e1 : det (n + 1) (minorC M (n + 1)) = 0 := by
      rw [det_congr (N := setRow (minorC M (n + 1)) n fun _ => 0) fun r c hr hc => ?_]
      · exact det_zeroRow (by omega)
      unfold setRow
      split
      · rename_i hr; subst hr
        show M (r + 1) (skipC (r + 1) c) = 0
        rw [h _ (by unfold skipC; split <;> omega)]
        exact if_neg (by unfold skipC; split <;> omega)
      · rfl
    rw [e1, Int.mul_zero, Int.add_zero]
    conv => rhs; rw [det]
    refine sumI_congr fun j hj => ?_
    rw [det_last (M := minorC M j) fun c hc => ?_]
    show M (n + 1) (skipC j c) = _
    rw [h _ (skip_lt hc)]
    by_cases e : c = n
    · rw [if_pos e, if_pos (by unfold skipC; split <;> omega)]
    · rw [if_neg e, if_neg (by unfold skipC; split <;> omega)]
theorem sum_skip {f : Nat → Nat} : ∀ {n j : Nat}, j ≤ n → ((List.range n).map fun c => f (skipC j c)).sum + f j = ((List.range (n + 1)).map f).sum
  | 0, j, h => by
    have : j = 0 := by omega
    subst this
    show 0 + f 0 = f 0 + 0
    omega
  | n + 1, j, h => by
    rw [List.range_succ, List.map_append, List.sum_append, List.range_succ (n := n + 1), List.map_append, List.sum_append]
    by_cases c : j = n + 1
    · subst c
      have e : (List.range n).map (fun c => f (skipC (n + 1) c)) = (List.range n).map f := List.map_congr_left fun c hc => by
        have := List.mem_range.mp hc
        unfold skipC
        rw [if_pos (by omega)]
      rw [e, List.range_succ, List.map_append, List.sum_append]
      show _ + (f (skipC (n + 1) n) + 0) + _ = _ + (f n + 0) + (f (n + 1) + 0)
      have : skipC (n + 1) n = n := if_pos (by omega)
      rw [this]; omega
    · have ih := sum_skip (f := f) (n := n) (j := j) (by omega)
      have : skipC j n = n + 1 := if_neg (by omega)
      show _ + (f (skipC j n) + 0) + f j = _ + (f (n + 1) + 0)
      rw [this]; omega
theorem det_bound {b : Nat} : ∀ {n : Nat} {M : Nat → Nat → Int}, (∀ r, r < n → ((List.range n).map fun c => (M r c).natAbs).sum ≤ b) → (det n M).natAbs ≤ b ^ n
  | 0, _, _ => Nat.le_refl 1
  | n + 1, M, h => by
    rw [det]
    refine Nat.le_trans (sumI_abs (g := fun j => (M 0 j).natAbs * b ^ n) fun j hj => ?_) ?_
    · rw [Int.natAbs_mul, Int.natAbs_mul, sg_abs, Nat.one_mul]
      refine Nat.mul_le_mul_left _ (det_bound fun r hr => ?_)
      have h1 := h (r + 1) (by omega)
      have h2 := sum_skip (f := fun c => (M (r + 1) c).natAbs) (n := n) (j := j) (by omega)
      show ((List.range n).map fun c => (M (r + 1) (skipC j c)).natAbs).sum ≤ b
      omega
    · have e : ((List.range (n + 1)).map fun j => (M 0 j).natAbs * b ^ n).sum = ((List.range (n + 1)).map fun j => (M 0 j).natAbs).sum * b ^ n := by
        have g : ∀ l : List Nat, (l.map fun j => (M 0 j).natAbs * b ^ n).sum = (l.map fun j => (M 0 j).natAbs).sum * b ^ n := fun l => by
          induction l with
          | nil => show 0 = 0 * _; rw [Nat.zero_mul]
          | cons a l ih => rw [List.map_cons, List.sum_cons, ih, List.map_cons, List.sum_cons, Nat.add_mul]
        exact g _
      rw [e, Nat.pow_succ, Nat.mul_comm (b ^ n)]
      exact Nat.mul_le_mul_right _ (h 0 (by omega))
end G3

set_option Elab.async false
set_option linter.all false
set_option maxRecDepth 100000
set_option maxHeartbeats 1000000
namespace G3
/-! ## plain: elimination without fractions -/
theorem sumI_cut {m n : Nat} {f : Nat → Int} (h : m ≤ n) (z : ∀ l, m ≤ l → l < n → f l = 0) : sumI n f = sumI m f := by
  induction n with
  | zero => rw [show m = 0 by omega]
  | succ n ih =>
    by_cases c : m = n + 1
    · rw [c]
    · rw [sumI_succ, z n (by omega) (by omega), ih (by omega) fun l a b => z l a (by omega), Int.add_zero]
theorem sumI_pick {n i : Nat} {f : Nat → Int} (hi : i < n) : sumI n f = sumI n (fun l => if l = i then 0 else f l) + f i := by
  have e : sumI n f = sumI n fun l => (if l = i then 0 else f l) + (if l = i then f l else 0) := sumI_congr fun l _ => by
    by_cases c : l = i
    · rw [if_pos c, if_pos c, Int.zero_add]
    · rw [if_neg c, if_neg c, Int.add_zero]
  rw [e, sumI_add, sumI_delta (f := f) hi]
def comb (n : Nat) (u : Nat → Int) (A : Nat → Nat → Int) (c : Nat) : Int := sumI n fun l => u l * A l c
structure Bar (b n : Nat) (A : Nat → Nat → Int) (k : Nat) (D : Int) (U : Nat → Nat → Int) : Prop where
  d : D = det k A
  p : D ≠ 0
  id : ∀ i l, i < n → k ≤ l → l < n → U i l = if l = i then D else 0
  el : ∀ i c, i < n → c < k → comb n (U i) A c = if c = i then D else 0
  bd : ∀ i l, i < n → l < n → (U i l).natAbs ≤ b ^ k
theorem bar_zero {b n : Nat} {A : Nat → Nat → Int} : Bar b n A 0 1 (fun i l => if l = i then 1 else 0) where
  d := rfl
  p := by decide
  id := fun i l _ _ _ => rfl
  el := fun i c _ h => by omega
  bd := fun i l _ _ => by
    show (if l = i then (1 : Int) else 0).natAbs ≤ 1
    split <;> decide
def stepU (n : Nat) (A : Nat → Nat → Int) (k : Nat) (D : Int) (U : Nat → Nat → Int) : Nat → Nat → Int := fun i l => if i = k then U k l else (comb n (U k) A k * U i l - comb n (U i) A k * U k l) / D
section
variable {b n k : Nat} {A : Nat → Nat → Int} {D : Int} {U : Nat → Nat → Int}
theorem Bar.row (h : Bar b n A k D U) (hk : k < n) {c : Nat} (hc : c < k + 1) : sumI (k + 1) (fun l => U k l * A l c) = if c = k then comb n (U k) A k else 0 := by
  have e : comb n (U k) A c = sumI (k + 1) (fun l => U k l * A l c) := sumI_cut hk fun l h1 h2 => by
    rw [h.id k l hk (by omega) h2, if_neg (by omega), Int.zero_mul]
  rw [← e]
  by_cases z : c = k
  · rw [if_pos z, z]
  · rw [if_neg z, h.el k c hk (by omega), if_neg z]
theorem Bar.next (h : Bar b n A k D U) (hk : k < n) : comb n (U k) A k = det (k + 1) A := by
  have e := cramer (n := k + 1) (M := A) (u := U k) (v := fun c => comb n (U k) A k * (if c = k then 1 else 0)) (k := k) (by omega) fun c hc => by
    rw [h.row hk hc]
    by_cases z : c = k
    · rw [if_pos z, if_pos z, Int.mul_one]
    · rw [if_neg z, if_neg z, Int.mul_zero]
  rw [h.id k k hk (Nat.le_refl _) hk, if_pos rfl, det_scale (by omega), det_last (M := setRow A k fun c => if c = k then 1 else 0) fun c _ => if_pos rfl,
    det_congr (M := setRow A k fun c => if c = k then 1 else 0) (N := A) fun r c hr hc => by unfold setRow; rw [if_neg (by omega)], ← h.d, Int.mul_comm] at e
  exact (Int.eq_of_mul_eq_mul_right h.p e).symm
def vRow (A : Nat → Nat → Int) (k i : Nat) : Nat → Int := fun c => if i < k then (if c = i then 1 else 0) else - A i c
theorem Bar.exact_low (h : Bar b n A k D U) (hk : k < n) (hp : comb n (U k) A k ≠ 0) {i l : Nat} (hi : i < n) (hik : i ≠ k) (hl : l < k + 1) :
    comb n (U k) A k * U i l - comb n (U i) A k * U k l = D * det (k + 1) (setRow A l (vRow A k i)) := by
  have nx := h.next hk
  generalize comb n (U k) A k = D' at nx hp ⊢
  generalize hg : comb n (U i) A k = g
  have X : ∀ c, c < k + 1 → sumI n (fun l => (D' * U i l - g * U k l) * A l c) = D' * comb n (U i) A c - g * comb n (U k) A c := fun c _ => by
    unfold comb
    rw [← sumI_mul, ← sumI_mul, ← sumI_sub]
    refine sumI_congr fun l _ => ?_
    rw [Int.sub_mul, Int.mul_assoc, Int.mul_assoc]
  have Y : ∀ c, c < k + 1 → D' * comb n (U i) A c - g * comb n (U k) A c = if c = i ∧ i < k then D * D' else 0 := fun c hc => by
    by_cases z : c = k
    · subst z
      rw [if_neg (by omega), hg]
      have : comb n (U c) A c = D' := by rw [h.next hk, nx]
      rw [this, Int.mul_comm D' g]
      omega
    · rw [h.el i c hi (by omega), h.el k c hk (by omega), if_neg z, Int.mul_zero, Int.sub_zero]
      by_cases y : c = i
      · rw [if_pos y, if_pos ⟨y, by omega⟩, Int.mul_comm]
      · rw [if_neg y, if_neg (fun q => y q.1), Int.mul_zero]
  have K0 : ∀ l, k + 1 ≤ l → l < n → U k l = 0 := fun l h1 h2 => by rw [h.id k l hk (by omega) h2, if_neg (by omega)]
  have Z : ∀ c, c < k + 1 → sumI (k + 1) (fun l => (D' * U i l - g * U k l) * A l c) = D * (D' * vRow A k i c) := fun c hc => by
    by_cases lo : i < k
    · rw [← sumI_cut (n := n) hk fun l h1 h2 => by rw [K0 l h1 h2, h.id i l hi (by omega) h2, if_neg (by omega), Int.mul_zero, Int.mul_zero, Int.sub_zero, Int.zero_mul], X c hc, Y c hc]
      unfold vRow
      rw [if_pos lo]
      by_cases y : c = i
      · rw [if_pos ⟨y, lo⟩, if_pos y, Int.mul_one]
      · rw [if_neg (fun q => y q.1), if_neg y, Int.mul_zero, Int.mul_zero]
    · have e1 := sumI_pick (n := n) (i := i) (f := fun l => (D' * U i l - g * U k l) * A l c) hi
      rw [X c hc, Y c hc, if_neg (fun q => lo q.2)] at e1
      have e2 : (D' * U i i - g * U k i) * A i c = D * (D' * A i c) := by
        rw [K0 i (by omega) hi, h.id i i hi (by omega) hi, if_pos rfl, Int.mul_zero, Int.sub_zero, Int.mul_comm D' D, Int.mul_assoc]
      rw [e2, sumI_cut (m := k + 1) hk fun l h1 h2 => by
        by_cases y : l = i
        · rw [if_pos y]
        · rw [if_neg y, K0 l h1 h2, h.id i l hi (by omega) h2, if_neg y, Int.mul_zero, Int.mul_zero, Int.sub_zero, Int.zero_mul]] at e1
      have e3 : sumI (k + 1) (fun l => if l = i then 0 else (D' * U i l - g * U k l) * A l c) = sumI (k + 1) (fun l => (D' * U i l - g * U k l) * A l c) := sumI_congr fun l hl => if_neg (by omega)
      rw [e3] at e1
      unfold vRow
      rw [if_neg lo, Int.mul_neg, Int.mul_neg]
      omega
  have e := cramer (n := k + 1) (M := A) (u := fun l => D' * U i l - g * U k l) (v := fun c => D * (D' * vRow A k i c)) (k := l) hl Z
  rw [det_scale hl, det_scale hl, ← nx] at e
  have e : (D' * U i l - g * U k l) * D' = (D * det (k + 1) (setRow A l (vRow A k i))) * D' := by rw [e, Int.mul_comm D' (det _ _), Int.mul_assoc]
  exact Int.eq_of_mul_eq_mul_right hp e
theorem Bar.exact_high (h : Bar b n A k D U) (hk : k < n) {i l : Nat} (hi : i < n) (hl : k < l) (hln : l < n) :
    comb n (U k) A k * U i l - comb n (U i) A k * U k l = D * (if l = i then comb n (U k) A k else 0) := by
  rw [h.id i l hi (by omega) hln, h.id k l hk (by omega) hln, if_neg (by omega : ¬ l = k), Int.mul_zero, Int.sub_zero]
  by_cases c : l = i
  · rw [if_pos c, if_pos c, Int.mul_comm]
  · rw [if_neg c, if_neg c, Int.mul_zero, Int.mul_zero]
theorem Bar.exact (h : Bar b n A k D U) (hk : k < n) (hp : comb n (U k) A k ≠ 0) {i l : Nat} (hi : i < n) (hik : i ≠ k) (hl : l < n) :
    ∃ x, comb n (U k) A k * U i l - comb n (U i) A k * U k l = D * x := by
  rcases Nat.lt_or_ge l (k + 1) with z | z
  · exact ⟨_, h.exact_low hk hp hi hik z⟩
  · exact ⟨_, h.exact_high hk hi z hl⟩
theorem Bar.step_mul (h : Bar b n A k D U) (hk : k < n) (hp : comb n (U k) A k ≠ 0) {i l : Nat} (hi : i < n) (hik : i ≠ k) (hl : l < n) :
    D * stepU n A k D U i l = comb n (U k) A k * U i l - comb n (U i) A k * U k l := by
  obtain ⟨x, hx⟩ := h.exact hk hp hi hik hl
  unfold stepU
  rw [if_neg hik, hx, Int.mul_ediv_cancel_left _ h.p]
/-- the same of the part ahead of the bar -/
theorem Bar.step_comb (h : Bar b n A k D U) (hk : k < n) (hp : comb n (U k) A k ≠ 0) {i c : Nat} (hi : i < n) (hik : i ≠ k) :
    D * comb n (stepU n A k D U i) A c = comb n (U k) A k * comb n (U i) A c - comb n (U i) A k * comb n (U k) A c := by
  unfold comb
  rw [← sumI_mul, ← sumI_mul, ← sumI_mul, ← sumI_sub]
  refine sumI_congr fun l hl => ?_
  have := h.step_mul hk hp hi hik hl
  unfold comb at this
  rw [← Int.mul_assoc, this, Int.sub_mul, Int.mul_assoc, Int.mul_assoc]
theorem row_abs {A : Nat → Nat → Int} {n m : Nat} (hb : ∀ r, r < n → ((List.range n).map fun c => (A r c).natAbs).sum ≤ b) (hm : m ≤ n) {r : Nat} (hr : r < n) : ((List.range m).map fun c => (A r c).natAbs).sum ≤ b := by
  have mono : ∀ (f : Nat → Nat) {m n : Nat}, m ≤ n → ((List.range m).map f).sum ≤ ((List.range n).map f).sum := fun f {m n} hmn => by
    induction n with
    | zero => rw [show m = 0 by omega]; exact Nat.le_refl _
    | succ n ih =>
      by_cases c : m = n + 1
      · rw [c]; exact Nat.le_refl _
      · refine Nat.le_trans (ih (by omega)) ?_
        rw [List.range_succ, List.map_append, List.sum_append]
        exact Nat.le_add_right _ _
  exact Nat.le_trans (mono _ hm) (hb r hr)
theorem Bar.step (h : Bar b n A k D U) (hk : k < n) (hp : comb n (U k) A k ≠ 0) (hb : ∀ r, r < n → ((List.range n).map fun c => (A r c).natAbs).sum ≤ b) (hb1 : 1 ≤ b) : Bar b n A (k + 1) (comb n (U k) A k) (stepU n A k D U) := by
  refine ⟨h.next hk, hp, fun i l hi hl hln => ?_, fun i c hi hc => ?_, fun i l hi hl => ?_⟩
  · by_cases e : i = k
    · subst e
      unfold stepU
      rw [if_pos rfl, h.id i l hk (by omega) hln, if_neg (by omega), if_neg (by omega)]
    · refine Int.eq_of_mul_eq_mul_left h.p ?_
      rw [h.step_mul hk hp hi e hln, h.exact_high hk hi hl hln]
  · by_cases e : i = k
    · subst e
      have : stepU n A i D U i = U i := by funext l; unfold stepU; rw [if_pos rfl]
      rw [this]
      by_cases z : c = i
      · rw [if_pos z, z]
      · rw [if_neg z, h.el i c hk (by omega), if_neg z]
    · refine Int.eq_of_mul_eq_mul_left h.p ?_
      rw [h.step_comb hk hp hi e]
      by_cases z : c = k
      · subst z
        rw [if_neg (fun q => e q.symm), Int.mul_zero, Int.mul_comm]
        omega
      · rw [h.el i c hi (by omega), h.el k c hk (by omega), if_neg z, Int.mul_zero, Int.sub_zero]
        by_cases y : c = i
        · rw [if_pos y, if_pos y, Int.mul_comm]
        · rw [if_neg y, if_neg y, Int.mul_zero, Int.mul_zero]
  · by_cases e : i = k
    · subst e
      unfold stepU
      rw [if_pos rfl]
      exact Nat.le_trans (h.bd i l hi hl) (Nat.pow_le_pow_right hb1 (Nat.le_succ _))
    · have es := h.step_mul hk hp hi e hl
      have dd : ∀ M : Nat → Nat → Int, (∀ r, r < k + 1 → ((List.range (k + 1)).map fun c => (M r c).natAbs).sum ≤ b) → (det (k + 1) M).natAbs ≤ b ^ (k + 1) := fun M hM => det_bound hM
      rcases Nat.lt_or_ge l (k + 1) with z | z
      · rw [h.exact_low hk hp hi e z] at es
        rw [Int.eq_of_mul_eq_mul_left h.p es]
        refine dd _ fun r hr => ?_
        by_cases y : r = l
        · have e1 : (List.range (k + 1)).map (fun c => (setRow A l (vRow A k i) r c).natAbs) = (List.range (k + 1)).map (fun c => (vRow A k i c).natAbs) := List.map_congr_left fun c _ => by unfold setRow; rw [if_pos y]
          rw [e1]
          by_cases lo : i < k
          · have e2 : (List.range (k + 1)).map (fun c => (vRow A k i c).natAbs) = (List.range (k + 1)).map (fun c => if c = i then 1 else 0) := List.map_congr_left fun c _ => by
              unfold vRow
              rw [if_pos lo]
              split <;> rfl
            rw [e2]
            have e3 : ∀ m : Nat, ((List.range m).map (fun c => if c = i then 1 else 0)).sum ≤ 1 ∧ (m ≤ i → ((List.range m).map (fun c => if c = i then 1 else 0)).sum = 0) := fun m => by
              induction m with
              | zero => exact ⟨Nat.zero_le _, fun _ => rfl⟩
              | succ m ih =>
                rw [List.range_succ, List.map_append, List.sum_append]
                show _ + ((if m = i then 1 else 0) + 0) ≤ 1 ∧ (_ → _ + ((if m = i then 1 else 0) + 0) = 0)
                by_cases q : m = i
                · rw [if_pos q, ih.2 (by omega)]
                  exact ⟨Nat.le_refl _, fun _ => by omega⟩
                · rw [if_neg q]
                  exact ⟨by have := ih.1; omega, fun _ => by have := ih.2 (by omega); omega⟩
            have := (e3 (k + 1)).1
            omega
          · have e2 : (List.range (k + 1)).map (fun c => (vRow A k i c).natAbs) = (List.range (k + 1)).map (fun c => (A i c).natAbs) := List.map_congr_left fun c _ => by
              unfold vRow
              rw [if_neg lo, Int.natAbs_neg]
            rw [e2]
            exact row_abs hb hk hi
        · have e1 : (List.range (k + 1)).map (fun c => (setRow A l (vRow A k i) r c).natAbs) = (List.range (k + 1)).map (fun c => (A r c).natAbs) := List.map_congr_left fun c _ => by unfold setRow; rw [if_neg y]
          rw [e1]
          exact row_abs hb hk (by omega)
      · rw [h.exact_high hk hi z hl] at es
        rw [Int.eq_of_mul_eq_mul_left h.p es]
        split
        · rw [h.next hk]
          exact dd _ fun r hr => row_abs hb hk (by omega)
        · exact Nat.zero_le _
end
/-- positive -/
def PosA (n : Nat) (A : Nat → Nat → Int) : Prop := ∀ m, m ≤ n → ∀ u : Nat → Int, (∃ l, l < m ∧ u l ≠ 0) → 0 < sumI m fun c => sumI m (fun l => u l * A l c) * u c
theorem Bar.pos {b n k : Nat} {A : Nat → Nat → Int} {D : Int} {U : Nat → Nat → Int} (h : Bar b n A k D U) (hk : k < n) (hp : PosA n A) (hD : 0 < D) : 0 < comb n (U k) A k := by
  have hkk := h.id k k hk (Nat.le_refl _) hk
  rw [if_pos rfl] at hkk
  have h1 := hp (k + 1) hk (U k) ⟨k, by omega, by omega⟩
  rw [sumI_congr (g := fun c => if c = k then comb n (U k) A k * U k c else 0) fun c hc => by
    rw [h.row hk hc]
    by_cases z : c = k
    · rw [if_pos z, if_pos z]
    · rw [if_neg z, if_neg z, Int.zero_mul], sumI_delta (f := fun c => comb n (U k) A k * U k c) (by omega), hkk] at h1
  rcases Int.lt_or_le 0 (comb n (U k) A k) with z | z
  · exact z
  · have := Int.mul_nonpos_of_nonpos_of_nonneg z (Int.le_of_lt hD)
    omega
/-- the end: a table that undoes -/
theorem Bar.sym {b n : Nat} {A : Nat → Nat → Int} {D : Int} {U : Nat → Nat → Int} (h : Bar b n A n D U) (hs : ∀ i j, i < n → j < n → A i j = A j i) {i j : Nat} (hi : i < n) (hj : j < n) : U i j = U j i := by
  have e1 : sumI n (fun c => comb n (U i) A c * U j c) = D * U j i := by
    rw [sumI_congr (g := fun c => if c = i then D * U j c else 0) fun c hc => by
      rw [h.el i c hi hc]
      by_cases z : c = i
      · rw [if_pos z, if_pos z]
      · rw [if_neg z, if_neg z, Int.zero_mul], sumI_delta (f := fun c => D * U j c) hi]
  have e2 : sumI n (fun c => comb n (U i) A c * U j c) = sumI n (fun l => U i l * comb n (U j) A l) := by
    unfold comb
    rw [sumI_congr (g := fun c => sumI n fun l => U i l * A l c * U j c) fun c hc => sumI_mulr.symm, sumI_swap]
    refine sumI_congr fun l hl => ?_
    rw [← sumI_mul]
    refine sumI_congr fun c hc => ?_
    rw [hs l c hl hc, Int.mul_assoc, Int.mul_comm (A c l)]
  have e3 : sumI n (fun l => U i l * comb n (U j) A l) = D * U i j := by
    rw [sumI_congr (g := fun l => if l = j then D * U i l else 0) fun l hl => by
      rw [h.el j l hj hl]
      by_cases z : l = j
      · rw [if_pos z, if_pos z, Int.mul_comm]
      · rw [if_neg z, if_neg z, Int.mul_zero], sumI_delta (f := fun l => D * U i l) hj]
  rw [e2, e3] at e1
  exact Int.eq_of_mul_eq_mul_left h.p e1
theorem Bar.solve {b n : Nat} {A : Nat → Nat → Int} {D : Int} {U : Nat → Nat → Int} (h : Bar b n A n D U) (hs : ∀ i j, i < n → j < n → A i j = A j i) (r : Nat → Int) {l : Nat} (hl : l < n) :
    sumI n (fun c => A l c * sumI n fun m => U c m * r m) = D * r l := by
  rw [sumI_congr (g := fun c => sumI n fun m => A l c * U c m * r m) fun c hc => by
    rw [← sumI_mul]
    exact sumI_congr fun m _ => (Int.mul_assoc ..).symm, sumI_swap]
  rw [sumI_congr (g := fun m => if m = l then D * r m else 0) fun m hm => by
    rw [sumI_mulr]
    have e : sumI n (fun c => A l c * U c m) = comb n (U m) A l := sumI_congr fun c hc => by
      rw [h.sym hs hc hm, hs l c hl hc, Int.mul_comm]
    rw [e, h.el m l hm hl]
    by_cases z : m = l
    · rw [if_pos z, if_pos z.symm]
    · rw [if_neg z, if_neg (fun q => z q.symm), Int.zero_mul]]
  exact sumI_delta (f := fun m => D * r m) hl
end G3

set_option Elab.async false
set_option linter.all false
set_option maxRecDepth 100000
set_option maxHeartbeats 1000000
namespace G3
open PySem PySem.Spec PyProof.Rows L2
def top (i : Nat) : Stmt := PySem.Challenge.pw_chipsproved_k25_whole_reduced_sums_of_gr.main.body.getD i (.Pass ⟨0, 0, 0, 0⟩)
abbrev s_BadGraph___init__ : Stmt := inClass (top 5) 0
abbrev s_NoPlace___init__ : Stmt := inClass (top 6) 0
abbrev s_is_whole : Stmt := top 23
abbrev s_edge_fault : Stmt := top 9
abbrev s_together : Stmt := top 10
abbrev s_Graph___init__ : Stmt := inClass (top 11) 0
abbrev s_Graph___eq__ : Stmt := inClass (top 11) 1
abbrev s_check_place : Stmt := top 12
abbrev s_beside : Stmt := top 14
abbrev s_valences : Stmt := top 15
abbrev s_sent_by : Stmt := top 16
abbrev s_led : Stmt := top 17
abbrev s_laplace_rows : Stmt := top 18
abbrev s_inverse : Stmt := top 19
abbrev s_undone : Stmt := top 20
abbrev s_BadSum___init__ : Stmt := inClass (top 22) 0
abbrev s_is_whole_at7 : Stmt := top 7
abbrev s_told_sum : Stmt := top 25
abbrev s_is_whole_row : Stmt := top 26
abbrev s_burnt_order : Stmt := top 28
abbrev s_unburnt : Stmt := top 29
abbrev s_settle : Stmt := top 30
abbrev s_cleared_up : Stmt := top 31
abbrev s_led_down : Stmt := top 32
abbrev s_burning : Stmt := top 33
abbrev s_is_low : Stmt := top 34
abbrev s_is_reduced : Stmt := top 35
abbrev s_reduced : Stmt := top 36
abbrev s_is_burning_order : Stmt := top 37
abbrev s_shows_reduced : Stmt := top 38
abbrev s_law_pool : Stmt := top 40
abbrev s_law_take : Stmt := top 41
abbrev s_law_pick : Stmt := top 42
abbrev s_law_is_integer : Stmt := top 43
abbrev s_law_same : Stmt := top 44
abbrev s_law_below : Stmt := top 45
abbrev s_law_order : Stmt := top 46
abbrev s_law_power : Stmt := top 47
abbrev s_law_given : Stmt := top 48
abbrev s_law_graph : Stmt := top 49
abbrev s_law_all_pairs : Stmt := top 50
abbrev s_law_table : Stmt := top 51
abbrev s_law_led : Stmt := top 52
abbrev s_law_burnt : Stmt := top 53
abbrev s_law_is_low : Stmt := top 54
abbrev s_law_is_whole_row : Stmt := top 55
abbrev s_law_great_chips : Stmt := top 56
abbrev s_law_script : Stmt := top 57
abbrev s_law_is_order : Stmt := top 58
abbrev s_law_so : Stmt := top 59
abbrev s_law : Stmt := top 60
/-- what the module leaves free -/
structure Bt (mg : Str → Option Value) : Prop where
  len : mg "len" = none
  int : mg "int" = none
  list : mg "list" = none
  tuple : mg "tuple" = none
  range : mg "range" = none
  isinstance : mg "isinstance" = none
  bool : mg "bool" = none
  str : mg "str" = none
  all : mg "all" = none
  any : mg "any" = none
  min : mg "min" = none
  max : mg "max" = none
  sum : mg "sum" = none
  enumerate : mg "enumerate" = none
  zip : mg "zip" = none
  sorted : mg "sorted" = none
  repr : mg "repr" = none
section
variable {P : Program} {w : World} {K : PySem.W.Frag} {mg : Str → Option Value} {base : Heap}
abbrev n_law_take : List Str := ["pool", "many", "digit", "cell", "mixed"]
abbrev p_law_take : List Str := ["pool", "many"]
theorem sc_law_take : FnScope n_law_take p_law_take (defScope s_law_take) := ⟨rfl, rfl, rfl, by decide +kernel, rfl, by decide +kernel, by decide +kernel⟩
/-- a digit from the drawn number's own figures -/
def spTake1 : Sp := fun vs H Q _ => ∃ (a c : Addr) (i d s m : Int), vs = [.ref a, .int m] ∧ H a = some (.lst (poolL c i d s)) ∧ 0 < d ∧ 0 < m ∧ m < 1073741824 ∧
  ∀ r d', 0 ≤ r → r < m → 0 ≤ d' → Q (.int r) (upd H a (.lst (poolL c i d' s)))
theorem ok_take1 (D : DefAt K mg "_law_take" "_law_take" s_law_take) (B : Bt mg) : Has P w K mg base CX0 1 "_law_take" p_law_take spTake1 := by
  refine has_of D sc_law_take (fun _ _ _ _ _ _ us hl => match us, hl with | [_, _], _ => rfl) (fun vs H Q E h => ?_) (fun f cdv A outer s H vs Q E hr h => ?_)
  · obtain ⟨a, c, i, d, s, m, rfl, _⟩ := h
    rfl
  · obtain ⟨a, c, i, d, s0, m, rfl, hp, hd, hm, hm2, q⟩ := h
    refine ⟨_, (pss_cons (ps_if (pt_cmpR op_gt (pe_ix (ixL (K := K) rfl) (pv 0) pe_int (fun _ _ => rfl)) pe_int (nomark _)) (pss_cons (ps_set (i := 2) sc_law_take.nd rfl (.inl rfl) (pe_op op_mod (pe_callTy call_int1 rfl B.int (by decide +kernel) (pa_cons (pe_ix (ixL (K := K) rfl) (pv 0) pe_int (fun _ _ => rfl)) pa_nil)) (pv 1)))
  (pss_cons (ps_asg (pe_op op_fdiv (pe_ix (ixL (K := K) rfl) (pv 0) pe_int (fun _ _ => rfl)) (pv 1)) (pg_sub (pv 0) pe_int set_list))
  (pss_one (ps_ret (pv 2))))) pss_nil)
  pss_never), ?_⟩
    have hL := SqL.of (K := K) hp
    refine ⟨_, rfl, _, _, 2, .int d, rfl, rfl, hL, atI_nat (j := 2) rfl, _, _, rfl, rfl, _, rfl, ?_⟩
    refine ifD (fun _ => ?_) (fun e => absurd hd e)
    -- digit = int(pool[2]) % many
    refine ⟨_, rfl, _, _, 2, .int d, rfl, rfl, hL, atI_nat (j := 2) rfl, .inl ⟨d, rfl, ?_⟩⟩
    refine ⟨_, rfl, _, _, rfl, rfl, hm, ?_⟩
    -- pool[2] = pool[2] // many
    refine ⟨_, rfl, _, _, 2, .int d, rfl, rfl, hL, atI_nat (j := 2) rfl, _, rfl, _, _, rfl, rfl, ⟨hm, hm2⟩, _, rfl, a, _, 2, 2, rfl, rfl, hp, rfl, ?_⟩
    refine ⟨_, rfl, ?_⟩
    exact q _ _ (Int.emod_nonneg _ (by omega)) (Int.emod_lt_of_pos _ hm) (Int.ediv_nonneg (by omega) (by omega))
/-- the law's draw: any number below many, nothing else is seen of it -/
def spTake0 : Sp := fun vs H Q _ => ∃ (a c : Addr) (i d s m : Int) (ns : List Int), vs = [.ref a, .int m] ∧ H a = some (.lst (poolL c i d s)) ∧ H c = some (.lst (ns.map V.int)) ∧ (∀ n ∈ ns, (0 : Int) ≤ n) ∧ 0 ≤ i ∧ 0 ≤ d ∧ 0 ≤ s ∧ s < 2147483647 ∧ 0 < m ∧ m < 1073741824 ∧
  ∀ r i' d' s', 0 ≤ r → r < m → 0 ≤ i' → 0 ≤ d' → 0 ≤ s' → s' < 2147483647 → Q (.int r) (upd H a (.lst (poolL c i' d' s')))
theorem ok_take0 (D : DefAt K mg "_law_take" "_law_take" s_law_take) (B : Bt mg) : Has P w K mg base CX0 2 "_law_take" p_law_take spTake0 := by
  have h_law_take : Has P w K mg base CX0 1 "_law_take" p_law_take spTake1 := ok_take1 D B
  refine has_of D sc_law_take (fun _ _ _ _ _ _ us hl => match us, hl with | [_, _], _ => rfl) (fun vs H Q E h => ?_) (fun f cdv A outer s H vs Q E hr h => ?_)
  · obtain ⟨a, c, i, d, s, m, ns, rfl, _⟩ := h
    rfl
  · obtain ⟨a, c, i, d, s0, m, ns, rfl, hp, hc, hns, hi, hd, hs, hs2, hm, hm2, q⟩ := h
    refine ⟨_, (pss_cons (ps_if (pt_cmpR op_gt (pe_ix (ixL (K := K) rfl) (pv 0) pe_int (fun _ _ => rfl)) pe_int (nomark _)) (pss_cons (ps_set (i := 2) sc_law_take.nd rfl (.inl rfl) (pe_op op_mod (pe_callTy call_int1 rfl B.int (by decide +kernel) (pa_cons (pe_ix (ixL (K := K) rfl) (pv 0) pe_int (fun _ _ => rfl)) pa_nil)) (pv 1)))
  (pss_cons (ps_asg (pe_op op_fdiv (pe_ix (ixL (K := K) rfl) (pv 0) pe_int (fun _ _ => rfl)) (pv 1)) (pg_sub (pv 0) pe_int set_list))
  (pss_one (ps_ret (pv 2))))) pss_nil)
  (pss_cons (ps_set (i := 3) sc_law_take.nd rfl (.inl rfl) pe_int)
  (Evl.pss_cut (ps_if (pt_cmpR op_lt (pe_ix (ixL (K := K) rfl) (pv 0) pe_int (fun _ _ => rfl)) (pe_callB (lenK (K := K) rfl) rfl B.len PySem.boot_len (pa_cons (pe_ix (ixL (K := K) rfl) (pv 0) pe_int (fun _ _ => rfl)) pa_nil)) (nomark _)) (pss_one (ps_set (i := 3) sc_law_take.nd rfl (.inl rfl) (pe_ix (ixL (K := K) rfl) (pe_ix (ixL (K := K) rfl) (pv 0) pe_int (fun _ _ => rfl)) (pe_ix (ixL (K := K) rfl) (pv 0) pe_int (fun _ _ => rfl)) (fun _ _ => rfl)))) pss_nil)
  (pss_cons (ps_asg (pe_op op_add (pe_ix (ixL (K := K) rfl) (pv 0) pe_int (fun _ _ => rfl)) pe_int) (pg_sub (pv 0) pe_int set_list))
  (pss_cons (ps_if (pt_cmpR op_ge (pv 3) (pe_op op_pow pe_int pe_int) (nomark _)) (pss_cons (ps_asg (pe_op op_fdiv (pv 3) pe_int) (pg_sub (pv 0) pe_int set_list))
  (pss_one (ps_ret (pe_h h_law_take hr pass0 (pa_cons (pv 0) (pa_cons (pv 1) pa_nil)))))) pss_nil)
  (pss_cons (ps_asg (pe_op op_mod (pe_callTy call_int1 rfl B.int (by decide +kernel) (pa_cons (pe_op op_add (pe_op op_add (pe_op op_mul (pe_ix (ixL (K := K) rfl) (pv 0) pe_int (fun _ _ => rfl)) pe_int) (pe_op op_mul (pv 3) pe_int)) (pe_op op_mul (pe_ix (ixL (K := K) rfl) (pv 0) pe_int (fun _ _ => rfl)) pe_int)) pa_nil)) pe_int) (pg_sub (pv 0) pe_int set_list))
  (pss_cons (ps_set (i := 4) sc_law_take.nd rfl (.inl rfl) (pe_op op_mod (pe_callTy call_int1 rfl B.int (by decide +kernel) (pa_cons (pe_op op_add (pe_op op_add (pe_op op_mul (pe_ix (ixL (K := K) rfl) (pv 0) pe_int (fun _ _ => rfl)) (pe_ix (ixL (K := K) rfl) (pv 0) pe_int (fun _ _ => rfl))) (pe_op op_mul (pe_ix (ixL (K := K) rfl) (pv 0) pe_int (fun _ _ => rfl)) pe_int)) pe_int) pa_nil)) pe_int))
  (pss_one (ps_ret (pe_op op_mod (pe_callTy call_int1 rfl B.int (by decide +kernel) (pa_cons (pe_op op_fdiv (pv 4) pe_int) pa_nil)) (pv 1))))))))))), ?_⟩
    have hL := SqL.of (K := K) hp
    have hC := SqL.of (K := K) hc
    have nca : c ≠ a := ne_of hc hp (fun e => by
      have e1 := HO.lst.inj e
      cases ns with
      | nil => cases e1
      | cons z r =>
        have := (List.cons.inj e1).1
        cases this)
    refine ⟨_, rfl, _, _, 2, .int d, rfl, rfl, hL, atI_nat (j := 2) rfl, _, _, rfl, rfl, _, rfl, ?_⟩
    refine ifD (fun _ => ?_) (fun d0 => ?_)
    · refine ⟨_, rfl, _, _, 2, .int d, rfl, rfl, hL, atI_nat (j := 2) rfl, .inl ⟨d, rfl, ?_⟩⟩
      refine ⟨_, rfl, _, _, rfl, rfl, hm, ?_⟩
      refine ⟨_, rfl, _, _, 2, .int d, rfl, rfl, hL, atI_nat (j := 2) rfl, _, rfl, _, _, rfl, rfl, ⟨hm, hm2⟩, _, rfl, a, _, 2, 2, rfl, rfl, hp, rfl, ?_⟩
      refine ⟨_, rfl, ?_⟩
      exact q _ i (d / m) s0 (Int.emod_nonneg _ (by omega)) (Int.emod_lt_of_pos _ hm) hi (Int.ediv_nonneg (by omega) (by omega)) hs hs2
    · have d0 : d = 0 := by omega
      subst d0
      refine ⟨fun σ' H' => H' = H ∧ ∃ (y1 y2 : Option V) (cell : Int), 0 ≤ cell ∧ σ' = [some (.ref a), some (.int m), y1, some (.int cell), y2], ?_, ?_⟩
      · refine ⟨_, rfl, _, _, 1, .int i, rfl, rfl, hL, atI_nat (j := 1) rfl, _, rfl, _, _, 0, .ref c, rfl, rfl, hL, atI_nat (j := 0) rfl, _, _, rfl, .inl ⟨_, hC, rfl⟩, _, _, rfl, rfl, _, rfl, ?_⟩
        refine ifD (fun hlt => ?_) (fun _ => ?_)
        · have hl2 : i.toNat < ns.length := by
            rw [List.length_map] at hlt
            omega
          refine ⟨_, rfl, _, _, 0, .ref c, rfl, rfl, hL, atI_nat (j := 0) rfl, _, rfl, _, _, 1, .int i, rfl, rfl, hL, atI_nat (j := 1) rfl, _, _, i, .int (ns[i.toNat]), rfl, rfl, hC, ?_, ?_⟩
          · exact atI_int hi (getMap hl2)
          · exact ⟨rfl, _, _, _, hns _ (List.getElem_mem hl2), rfl⟩
        · exact ⟨rfl, _, _, _, Int.le_refl 0, rfl⟩
      · rintro σ' H' ⟨rfl, y1, y2, cell, hcell, rfl⟩
        -- pool[1] = pool[1] + 1
        refine ⟨_, rfl, _, _, 1, .int i, rfl, rfl, hL, atI_nat (j := 1) rfl, _, _, rfl, rfl, _, rfl, a, _, 1, 1, rfl, rfl, hp, rfl, ?_⟩
        have hp1 : (upd H' a (.lst (poolL c (i + 1) 0 s0))) a = some (.lst (poolL c (i + 1) 0 s0)) := upd_same
        have hc1 : (upd H' a (.lst (poolL c (i + 1) 0 s0))) c = some (.lst (ns.map V.int)) := by rw [upd_ne nca]; exact hc
        have hL1 := SqL.of (K := K) hp1
        -- if cell >= 10 ** 18
        refine ⟨_, rfl, _, _, rfl, rfl, ⟨by decide, by decide, by decide⟩, _, _, rfl, rfl, _, rfl, ?_⟩
        refine ifD (fun hbig => ?_) (fun _ => ?_)
        · have hbig : (10 : Int) ^ (18 : Int).toNat ≤ cell := hbig
          have h18 : (10 : Int) ^ (18 : Int).toNat = 1000000000000000000 := by decide
          rw [h18] at hbig
          refine ⟨_, rfl, _, _, rfl, rfl, ⟨by decide, by decide⟩, _, rfl, a, _, 2, 2, rfl, rfl, hp1, rfl, ?_⟩
          refine ⟨_, rfl, _, rfl, a, c, i + 1, cell / 2, s0, m, rfl, upd_same, by omega, hm, hm2, fun r d' h1 h2 h3 => ?_⟩
          rw [upd_upd, upd_upd]
          exact q _ _ _ _ h1 h2 (by omega) h3 hs hs2
        · -- pool[3] = ..
          refine ⟨_, rfl, _, _, 3, .int s0, rfl, rfl, hL1, atI_nat (j := 3) rfl, _, _, rfl, rfl, .inr ⟨by decide, by decide⟩, _, rfl, _, _, rfl, rfl, .inr ⟨by decide, by decide⟩, _, _, rfl, rfl,
            _, rfl, _, _, 1, .int (i + 1), rfl, rfl, hL1, atI_nat (j := 1) rfl, _, _, rfl, rfl, .inr ⟨by decide, by decide⟩, _, _, rfl, rfl, .inl ⟨_, rfl, ?_⟩⟩
          obtain ⟨s1, es1⟩ : ∃ s1, s1 = (s0 * 48271 + cell * 69621 + (i + 1) * 613) % 2147483647 := ⟨_, rfl⟩
          have hx : 0 ≤ s1 := es1 ▸ Int.emod_nonneg (s0 * 48271 + cell * 69621 + (i + 1) * 613) (show (2147483647 : Int) ≠ 0 by decide)
          have hy : s1 < 2147483647 := es1 ▸ Int.emod_lt_of_pos (s0 * 48271 + cell * 69621 + (i + 1) * 613) (show (0 : Int) < 2147483647 by decide)
          refine ⟨_, _, rfl, rfl, (show (0 : Int) < 2147483647 by decide), _, rfl, a, _, 3, 3, rfl, rfl, hp1, rfl, ?_⟩
          rw [upd_upd]
          have hp2 : (upd H' a (.lst (poolL c (i + 1) 0 ((s0 * 48271 + cell * 69621 + (i + 1) * 613) % 2147483647)))) a = some (.lst (poolL c (i + 1) 0 s1)) := es1 ▸ upd_same
          have hL2 := SqL.of (K := K) hp2
          refine ⟨_, rfl, _, _, 3, .int s1, rfl, rfl, hL2, atI_nat (j := 3) rfl, _, rfl, _, _, 3, .int s1, rfl, rfl, hL2, atI_nat (j := 3) rfl, _, _, rfl, rfl, .inl ⟨by omega, by omega⟩,
            _, rfl, _, _, 3, .int s1, rfl, rfl, hL2, atI_nat (j := 3) rfl, _, _, rfl, rfl, .inr ⟨by decide, by decide⟩, _, _, rfl, rfl, _, _, rfl, rfl, .inl ⟨_, rfl, ?_⟩⟩
          refine ⟨_, _, rfl, rfl, (show (0 : Int) < 1000000007 by decide), ?_⟩
          -- return int(mixed // 3) % many
          refine ⟨_, rfl, _, _, rfl, rfl, ⟨by decide, by decide⟩, .inl ⟨_, rfl, ?_⟩⟩
          refine ⟨_, rfl, _, _, rfl, rfl, hm, ?_⟩
          exact q _ _ _ _ (Int.emod_nonneg _ (by omega)) (Int.emod_lt_of_pos _ hm) (by omega) (Int.le_refl 0) (es1 ▸ hx) (es1 ▸ hy)
/-- .. over the pool as it is seen from outside -/
def spTake : Sp := fun vs H Q _ => ∃ (a : Addr) (m : Int), vs = [.ref a, .int m] ∧ PoolAt H a ∧ 0 < m ∧ m < 1073741824 ∧ ∀ r, 0 ≤ r → r < m → Q (.int r) H
theorem ok_take (D : DefAt K mg "_law_take" "_law_take" s_law_take) (B : Bt mg) : Has P w K mg base CX0 2 "_law_take" p_law_take spTake := by
  obtain ⟨f, fd, F, m, kp, b⟩ := ok_take0 (P := P) (w := w) (base := base) D B
  refine ⟨f, fd, ghost_call F (fun vs H Q E h => ?_) (fun vs H Q E hp ok h => ?_), m, kp, b⟩
  · obtain ⟨a, m, rfl, _⟩ := h
    rfl
  · obtain ⟨a, m, rfl, ⟨c, ns, h1, h2, h3⟩, hm, hm2, q⟩ := h
    obtain ⟨i, d, s, hi, hd, hs, hs2, ok1⟩ := pool_open ok h1
    have nca : c ≠ a := ne_of h2 h1 (fun e => by cases e)
    refine ⟨_, fun v H2 => ∃ r i' d' s', v = .int r ∧ 0 ≤ r ∧ r < m ∧ 0 ≤ i' ∧ 0 ≤ d' ∧ 0 ≤ s' ∧ s' < 2147483647 ∧ H2 = upd H a (.lst (poolL c i' d' s')), fun _ _ _ => False, Gst.upd h1 (fun xs => ext_tup) (fun o u z => by cases z) (fun ps z => by cases z), ok1, ?_, ?_⟩
    · refine ⟨a, c, i, d, s, m, ns, rfl, upd_same, by rw [upd_ne nca]; exact h2, h3, hi, hd, hs, hs2, hm, hm2, fun r i' d' s' r1 r2 r3 r4 r5 r6 => ?_⟩
      exact ⟨r, i', d', s', rfl, r1, r2, r3, r4, r5, r6, upd_upd⟩
    · rintro v H2 hp2 ok2 ⟨r, i', d', s', rfl, r1, r2, r3, r4, r5, r6, rfl⟩
      have e2 : (upd H a (.lst (poolL c i' d' s'))) a = some (.lst (poolL c i' d' s')) := upd_same
      refine ⟨_, Gst.upd e2 (fun xs => lst_tup) (fun o u z => by cases z) (fun ps z => by cases z), pool_close ok2 e2 r3 r4 r5 r6, ?_⟩
      rw [upd_upd]
      have e : upd H a (PoolO a c) = H := by
        funext b'
        by_cases hb : b' = a
        · subst hb; rw [upd_same, h1]
        · rw [upd_ne hb]
      rw [e]
      exact q r r1 r2

/-! ### _law_pick -/
abbrev n_law_pick : List Str := ["pool", "rows"]
abbrev p_law_pick : List Str := ["pool", "rows"]
theorem sc_law_pick : FnScope n_law_pick p_law_pick (defScope s_law_pick) := ⟨rfl, rfl, rfl, by decide +kernel, rfl, by decide +kernel, by decide +kernel⟩
abbrev n_law_is_integer : List Str := ["actual"]
abbrev p_law_is_integer : List Str := ["actual"]
theorem sc_law_is_integer : FnScope n_law_is_integer p_law_is_integer (defScope s_law_is_integer) := ⟨rfl, rfl, rfl, by decide +kernel, rfl, by decide +kernel, by decide +kernel⟩
abbrev n_law_same : List Str := ["actual", "due", "k"]
abbrev p_law_same : List Str := ["actual", "due"]
theorem sc_law_same : FnScope n_law_same p_law_same (defScope s_law_same) := ⟨rfl, rfl, rfl, by decide +kernel, rfl, by decide +kernel, by decide +kernel⟩
def spPick (K : PySem.W.Frag) : Sp := fun vs H Q _ => ∃ (a b : Addr) (xs : List V), vs = [.ref a, .ref b] ∧ PoolAt H a ∧ SqL K H b xs ∧ 0 < xs.length ∧ xs.length < 1000000000 ∧ ∀ (i : Nat) v, xs[i]? = some v → Q v H
theorem ok_pick (D : DefAt K mg "_law_pick" "_law_pick" s_law_pick) (B : Bt mg) (h_law_take : Has P w K mg base CX0 2 "_law_take" p_law_take spTake) : Has P w K mg base CX0 3 "_law_pick" p_law_pick (spPick K) := by
  refine has_of D sc_law_pick (fun _ _ _ _ _ _ us hl => match us, hl with | [_, _], _ => rfl) (fun vs H Q E h => ?_) (fun f cdv A outer s H vs Q E hr h => ?_)
  · obtain ⟨a, b, xs, rfl, _⟩ := h
    rfl
  · obtain ⟨a, b, xs, rfl, hp, hb, h0, h1, q⟩ := h
    refine ⟨_, (pss_one (ps_ret (pe_ix (ixL (K := K) rfl) (pv 1) (pe_h h_law_take hr pass0 (pa_cons (pv 0) (pa_cons (pe_callB (lenK (K := K) rfl) rfl B.len PySem.boot_len (pa_cons (pv 1) pa_nil)) pa_nil))) (fun _ _ => rfl)))), ?_⟩
    refine ⟨_, rfl, _, rfl, _, rfl, _, xs.length, rfl, .inl ⟨_, hb, rfl⟩, ?_⟩
    refine ⟨a, _, rfl, hp, by omega, by omega, fun r r0 r1 => ?_⟩
    have hr : r.toNat < xs.length := by omega
    exact ⟨_, _, r, xs[r.toNat], rfl, rfl, hb, atI_int r0 (List.getElem?_eq_getElem hr), q _ _ (List.getElem?_eq_getElem hr)⟩
/-! ### _law_is_integer -/
def spIsI (K : PySem.W.Frag) : Sp := fun vs H Q _ => ∃ (x : V) (d : PyData), vs = [x] ∧ Dp K H x d ∧ Q (.bl (isI x)) H
theorem ok_is_integer (D : DefAt K mg "_law_is_integer" "_law_is_integer" s_law_is_integer) (B : Bt mg) : Has P w K mg base CX0 1 "_law_is_integer" p_law_is_integer (spIsI K) := by
  refine has_of D sc_law_is_integer (fun _ _ _ _ _ _ us hl => match us, hl with | [_], _ => rfl) (fun vs H Q E h => ?_) (fun f cdv A outer s H vs Q E hr h => ?_)
  · obtain ⟨x, d, rfl, _⟩ := h
    rfl
  · obtain ⟨x, d, rfl, hd, q⟩ := h
    refine ⟨_, (pss_one (ps_ret (pe_and (pe_callB (isiK (K := K) rfl) rfl B.isinstance (by decide +kernel) (pa_cons (pv 0) (pa_cons (pe_bltn (v := .ty "int") (u := .type "int") rfl B.int (by decide +kernel) rfl) pa_nil))) (pe_one (pe_not (pe_callB (isiK (K := K) rfl) rfl B.isinstance (by decide +kernel) (pa_cons (pv 0) (pa_cons (pe_bltn (v := .ty "bool") (u := .type "bool") rfl B.bool (by decide +kernel) rfl) pa_nil)))))))), ?_⟩
    have ty := Dp.ty hd
    refine ⟨_, rfl, _, _, _, _, _, rfl, .ty _, ty, kt_int d, _, rfl, ?_⟩
    cases hd with
    | non => exact iteF q
    | bl b => exact iteT ⟨_, rfl, _, _, _, _, _, rfl, .ty _, ty, kt_bool _, _, rfl, q⟩
    | int i => exact iteT ⟨_, rfl, _, _, _, _, _, rfl, .ty _, ty, kt_bool _, _, rfl, q⟩
    | str x => exact iteF q
    | lst _ _ => exact iteF q
    | tup _ _ => exact iteF q

/-! ### _law_same -/
def spSame (K : PySem.W.Frag) (n : Nat) : Sp := fun vs H Q _ => ∃ (x y : V) (d : PyData), vs = [x, y] ∧ Dp K H x d ∧ Dp K H y d ∧ Fit n d ∧ ∀ H', Same H H' → Q (.bl true) H'
theorem ok_same (D : DefAt K mg "_law_same" "_law_same" s_law_same) (B : Bt mg) (h_law_is_integer : Has P w K mg base CX0 1 "_law_is_integer" p_law_is_integer (spIsI K)) : ∀ n, Has P w K mg base CX0 (n + 1) "_law_same" p_law_same (spSame K n)
  | 0 => has_false D (fun _ _ _ _ _ _ us hl => match us, hl with | [_, _], _ => rfl) (fun vs H Q E h => by obtain ⟨x, y, d, _, _, _, h, _⟩ := h; exact h)
  | n + 1 => by
    have h_law_same := ok_same D B h_law_is_integer n
    refine has_of D sc_law_same (fun _ _ _ _ _ _ us hl => match us, hl with | [_, _], _ => rfl) (fun vs H Q E h => ?_) (fun f cdv A outer s H vs Q E hr h => ?_)
    · obtain ⟨x, y, d, rfl, _⟩ := h
      rfl
    · obtain ⟨x, y, d, rfl, hx, hy, hn, q⟩ := h
      have hr0 : Room 1 _ := hr.mono (by omega)
      refine ⟨_, (pss_cons (ps_if (pt_val (pe_callB (isiK (K := K) rfl) rfl B.isinstance (by decide +kernel) (pa_cons (pv 1) (pa_cons (pe_bltn (v := .ty "tuple") (u := .type "tuple") rfl B.tuple (by decide +kernel) rfl) pa_nil)))) (pss_cons (ps_if (PW.pt (pw_or (pt_not (pt_val (pe_callB (isiK (K := K) rfl) rfl B.isinstance (by decide +kernel) (pa_cons (pv 0) (pa_cons (pe_bltn (v := .ty "tuple") (u := .type "tuple") rfl B.tuple (by decide +kernel) rfl) pa_nil))))) (pw_or1 (pt_cmpR op_ne (pe_callB (lenK (K := K) rfl) rfl B.len PySem.boot_len (pa_cons (pv 0) pa_nil)) (pe_callB (lenK (K := K) rfl) rfl B.len PySem.boot_len (pa_cons (pv 1) pa_nil)) (nomark _))))) (pss_one (ps_ret pe_bl)) pss_nil)
  (pss_one (ps_ret (pe_callB (allK (K := K) rfl rfl) rfl B.all (by decide +kernel) (pa_cons (pe_lc (own := [("k", 2)]) (g := gName 2) (tt := tYes) rfl sc_law_same.nd (pi_range1 rfl B.range (pa_cons (pe_callB (lenK (K := K) rfl) rfl B.len PySem.boot_len (pa_cons (pv 1) pa_nil)) pa_nil)) (blkOk_by (N := n_law_same) (sc := defScope s_law_same) (by decide +kernel)) (fun _ _ _ _ _ => (pg_name (i := 2) sc_law_same.nd rfl (.inl rfl))) (fun _ _ _ _ _ => pts_nil) (fun _ _ _ _ _ => (pe_h h_law_same hr pass0 (pa_cons (pe_ix (ixQ (K := K) rfl) (pv 0) (pv 2) (fun _ _ => rfl)) (pa_cons (pe_ix (ixQ (K := K) rfl) (pv 1) (pv 2) (fun _ _ => rfl)) pa_nil))))) pa_nil))))) pss_nil)
  (pss_cons (ps_if (pt_val (pe_callB (isiK (K := K) rfl) rfl B.isinstance (by decide +kernel) (pa_cons (pv 1) (pa_cons (pe_bltn (v := .ty "list") (u := .type "list") rfl B.list (by decide +kernel) rfl) pa_nil)))) (pss_cons (ps_if (PW.pt (pw_or (pt_not (pt_val (pe_callB (isiK (K := K) rfl) rfl B.isinstance (by decide +kernel) (pa_cons (pv 0) (pa_cons (pe_bltn (v := .ty "list") (u := .type "list") rfl B.list (by decide +kernel) rfl) pa_nil))))) (pw_or1 (pt_cmpR op_ne (pe_callB (lenK (K := K) rfl) rfl B.len PySem.boot_len (pa_cons (pv 0) pa_nil)) (pe_callB (lenK (K := K) rfl) rfl B.len PySem.boot_len (pa_cons (pv 1) pa_nil)) (nomark _))))) (pss_one (ps_ret pe_bl)) pss_nil)
  (pss_one (ps_ret (pe_callB (allK (K := K) rfl rfl) rfl B.all (by decide +kernel) (pa_cons (pe_lc (own := [("k", 2)]) (g := gName 2) (tt := tYes) rfl sc_law_same.nd (pi_range1 rfl B.range (pa_cons (pe_callB (lenK (K := K) rfl) rfl B.len PySem.boot_len (pa_cons (pv 1) pa_nil)) pa_nil)) (blkOk_by (N := n_law_same) (sc := defScope s_law_same) (by decide +kernel)) (fun _ _ _ _ _ => (pg_name (i := 2) sc_law_same.nd rfl (.inl rfl))) (fun _ _ _ _ _ => pts_nil) (fun _ _ _ _ _ => (pe_h h_law_same hr pass0 (pa_cons (pe_ix (ixQ (K := K) rfl) (pv 0) (pv 2) (fun _ _ => rfl)) (pa_cons (pe_ix (ixQ (K := K) rfl) (pv 1) (pv 2) (fun _ _ => rfl)) pa_nil))))) pa_nil))))) pss_nil)
  (pss_cons (ps_if (pt_cmpR op_isN (pv 1) pe_non (nomark _)) (pss_one (ps_ret (pe_cmpR op_isN (pv 0) pe_non (nomark _)))) pss_nil)
  (pss_cons (ps_if (pt_val (pe_callB (isiK (K := K) rfl) rfl B.isinstance (by decide +kernel) (pa_cons (pv 1) (pa_cons (pe_bltn (v := .ty "bool") (u := .type "bool") rfl B.bool (by decide +kernel) rfl) pa_nil)))) (pss_one (ps_ret (pe_and (pe_callB (isiK (K := K) rfl) rfl B.isinstance (by decide +kernel) (pa_cons (pv 0) (pa_cons (pe_bltn (v := .ty "bool") (u := .type "bool") rfl B.bool (by decide +kernel) rfl) pa_nil))) (pe_one (pe_cmpR op_eq (pv 0) (pv 1) (nomark _)))))) pss_nil)
  (pss_cons (ps_if (pt_val (pe_callB (isiK (K := K) rfl) rfl B.isinstance (by decide +kernel) (pa_cons (pv 1) (pa_cons (pe_bltn (v := .ty "str") (u := .type "str") rfl B.str (by decide +kernel) rfl) pa_nil)))) (pss_one (ps_ret (pe_and (pe_callB (isiK (K := K) rfl) rfl B.isinstance (by decide +kernel) (pa_cons (pv 0) (pa_cons (pe_bltn (v := .ty "str") (u := .type "str") rfl B.str (by decide +kernel) rfl) pa_nil))) (pe_one (pe_cmpR op_eq (pv 0) (pv 1) (nomark _)))))) pss_nil)
  (pss_one (ps_ret (pe_and (pe_h h_law_is_integer hr pass0 (pa_cons (pv 0) pa_nil)) (pe_one (pe_cmpR op_eq (pv 0) (pv 1) (nomark _))))))))))), ?_⟩
      have tx := Dp.ty hx
      have ty := Dp.ty hy
      refine ⟨_, rfl, _, _, _, _, _, rfl, .ty _, ty, kt_tuple d, _, rfl, ?_⟩
      cases hy with
      | non =>
        cases hx
        refine iteF ⟨_, rfl, _, _, _, _, _, rfl, .ty _, ty, kt_list _, _, rfl, iteF ?_⟩
        exact ⟨_, rfl, rfl, _, rfl, iteT ⟨_, rfl, rfl, q _ (Same.refl _)⟩⟩
      | bl b =>
        cases hx
        refine iteF ⟨_, rfl, _, _, _, _, _, rfl, .ty _, ty, kt_list _, _, rfl, iteF ?_⟩
        refine ⟨_, rfl, rfl, _, rfl, iteF ?_⟩
        refine ⟨_, rfl, _, _, _, _, _, rfl, .ty _, ty, kt_bool _, _, rfl, iteT ?_⟩
        refine ⟨_, rfl, _, _, _, _, _, rfl, .ty _, ty, kt_bool _, _, rfl, iteT ?_⟩
        refine ⟨_, rfl, _, rfl, by cases b <;> rfl, ?_⟩
        exact bl_t rfl (q _ (Same.refl _))
      | int i =>
        cases hx
        refine iteF ⟨_, rfl, _, _, _, _, _, rfl, .ty _, ty, kt_list _, _, rfl, iteF ?_⟩
        refine ⟨_, rfl, rfl, _, rfl, iteF ?_⟩
        refine ⟨_, rfl, _, _, _, _, _, rfl, .ty _, ty, kt_bool _, _, rfl, iteF ?_⟩
        refine ⟨_, rfl, _, _, _, _, _, rfl, .ty _, ty, kt_str _, _, rfl, iteF ?_⟩
        refine ⟨_, rfl, _, _, rfl, .int i, _, rfl, iteT ?_⟩
        refine ⟨_, rfl, _, rfl, rfl, ?_⟩
        exact bl_t rfl (q _ (Same.refl _))
      | str z =>
        cases hx
        refine iteF ⟨_, rfl, _, _, _, _, _, rfl, .ty _, ty, kt_list _, _, rfl, iteF ?_⟩
        refine ⟨_, rfl, rfl, _, rfl, iteF ?_⟩
        refine ⟨_, rfl, _, _, _, _, _, rfl, .ty _, ty, kt_bool _, _, rfl, iteF ?_⟩
        refine ⟨_, rfl, _, _, _, _, _, rfl, .ty _, ty, kt_str _, _, rfl, iteT ?_⟩
        refine ⟨_, rfl, _, _, _, _, _, rfl, .ty _, ty, kt_str _, _, rfl, iteT ?_⟩
        refine ⟨_, rfl, _, rfl, rfl, ?_⟩
        exact bl_t rfl (q _ (Same.refl _))
      | @lst b ys ds h2 t2 =>
        cases hx with
        | @lst a xs _ h1 t1 =>
        have hz : ds.length ≤ 100000 := hn.1
        have l1 := DpAll.len t1
        have l2 := DpAll.len t2
        refine iteF ⟨_, rfl, _, _, _, _, _, rfl, .ty _, ty, kt_list _, _, rfl, iteT ?_⟩
        refine ⟨_, rfl, _, _, _, _, _, rfl, .ty _, tx, kt_list _, _, rfl, iteF ?_⟩
        refine ⟨_, rfl, _, xs.length, rfl, .inl ⟨_, h1, rfl⟩, _, rfl, _, ys.length, rfl, .inl ⟨_, h2, rfl⟩, rfl, _, rfl, ?_⟩
        refine ifN (fun e => absurd (by rw [l1, l2]) e) (fun _ => ?_)
        refine ⟨_, rfl, _, ys.length, rfl, .inl ⟨_, h2, rfl⟩, _, rfl, by omega, by omega, fun L nL => ?_⟩
        refine lc_range (lo := 0) (n := ys.length) (fun i H' => Same H H' ∧ H' L = some (.lst ((List.replicate i true).map V.bl))) ⟨same_upd nL, upd_same⟩ ?_ ?_
        · rintro i H' hi ⟨sm, hl⟩
          refine ⟨rfl, yes_ ?_⟩
          have hi2 : i < ds.length := by omega
          obtain ⟨v1, e1, d1⟩ := DpAll.get t1 hi2
          obtain ⟨v2, e2, d2⟩ := DpAll.get t2 hi2
          refine ⟨_, rfl, _, rfl, .inl ⟨_, _, _, v1, rfl, rfl, sm.seq h1, by rw [Int.zero_add]; exact atI_nat e1, ?_⟩⟩
          refine ⟨_, rfl, _, rfl, .inl ⟨_, _, _, v2, rfl, rfl, sm.seq h2, by rw [Int.zero_add]; exact atI_nat e2, ?_⟩⟩
          refine ⟨_, _, _, rfl, Dp.same sm d1, Dp.same sm d2, hn.2 _ (List.getElem_mem hi2), fun H2 sm2 => ?_⟩
          refine ⟨_, sm2 _ _ hl, size_lt (by rw [len_rep]; omega), same_mut (sm.trans sm2) nL, ?_⟩
          rw [upd_same, List.replicate_succ', List.map_append]; rfl
        · rintro H' ⟨sm, hl⟩
          refine ⟨_, _, rfl, SqL.of hl, ?_⟩
          rw [all_rep]
          exact q _ sm
      | @tup b ys ds h2 t2 =>
        cases hx with
        | @tup a xs _ h1 t1 =>
        have hz : ds.length ≤ 100000 := hn.1
        have l1 := DpAll.len t1
        have l2 := DpAll.len t2
        refine iteT ?_
        refine ⟨_, rfl, _, _, _, _, _, rfl, .ty _, tx, kt_tuple _, _, rfl, iteF ?_⟩
        refine ⟨_, rfl, _, xs.length, rfl, .inr ⟨_, h1, rfl⟩, _, rfl, _, ys.length, rfl, .inr ⟨_, h2, rfl⟩, rfl, _, rfl, ?_⟩
        refine ifN (fun e => absurd (by rw [l1, l2]) e) (fun _ => ?_)
        refine ⟨_, rfl, _, ys.length, rfl, .inr ⟨_, h2, rfl⟩, _, rfl, by omega, by omega, fun L nL => ?_⟩
        refine lc_range (lo := 0) (n := ys.length) (fun i H' => Same H H' ∧ H' L = some (.lst ((List.replicate i true).map V.bl))) ⟨same_upd nL, upd_same⟩ ?_ ?_
        · rintro i H' hi ⟨sm, hl⟩
          refine ⟨rfl, yes_ ?_⟩
          have hi2 : i < ds.length := by omega
          obtain ⟨v1, e1, d1⟩ := DpAll.get t1 hi2
          obtain ⟨v2, e2, d2⟩ := DpAll.get t2 hi2
          refine ⟨_, rfl, _, rfl, .inr (.inl ⟨_, _, _, v1, rfl, rfl, Same.seqT sm h1, by rw [Int.zero_add]; exact atI_nat e1, ?_⟩)⟩
          refine ⟨_, rfl, _, rfl, .inr (.inl ⟨_, _, _, v2, rfl, rfl, Same.seqT sm h2, by rw [Int.zero_add]; exact atI_nat e2, ?_⟩)⟩
          refine ⟨_, _, _, rfl, Dp.same sm d1, Dp.same sm d2, hn.2 _ (List.getElem_mem hi2), fun H2 sm2 => ?_⟩
          refine ⟨_, sm2 _ _ hl, size_lt (by rw [len_rep]; omega), same_mut (sm.trans sm2) nL, ?_⟩
          rw [upd_same, List.replicate_succ', List.map_append]; rfl
        · rintro H' ⟨sm, hl⟩
          refine ⟨_, _, rfl, SqL.of hl, ?_⟩
          rw [all_rep]
          exact q _ sm
end
end G3

set_option Elab.async false
set_option linter.all false
set_option maxRecDepth 100000
set_option maxHeartbeats 1000000
namespace G3
open PySem PySem.Spec PyProof.Rows L2
abbrev nV (n : Nat) : V := .int (n : Int)
theorem erase_perm {α : Type} : ∀ {ls : List α} {k : Nat} (h : k < ls.length), (ls[k] :: ls.eraseIdx k).Perm ls
  | [], _, h => absurd h (by simp)
  | x :: r, 0, _ => List.Perm.refl _
  | x :: r, k + 1, h => by
    have ih := erase_perm (ls := r) (k := k) (by simpa using h)
    have hk : k < r.length := by simpa using h
    show (r[k] :: x :: r.eraseIdx k).Perm (x :: r)
    exact (List.Perm.swap _ _ _).trans (ih.cons x)
theorem map_erase {α β : Type} (f : α → β) : ∀ (ls : List α) (k : Nat), (ls.map f).eraseIdx k = (ls.eraseIdx k).map f
  | [], _ => rfl
  | _ :: _, 0 => rfl
  | x :: r, k + 1 => by
    show f x :: (r.map f).eraseIdx k = f x :: (r.eraseIdx k).map f
    rw [map_erase f r k]
theorem rgV_nat (m : Int) : rgV 0 m = (List.range m.toNat).map nV := by
  unfold rgV
  rw [Int.sub_zero]
  apply List.map_congr_left
  intro i _
  rw [Int.zero_add]
section
variable {P : Program} {w : World} {K : PySem.W.Frag} {mg : Str → Option Value} {base : Heap}
abbrev n_law_order : List Str := ["pool", "many", "left", "found", "k"]
abbrev p_law_order : List Str := ["pool", "many"]
theorem sc_law_order : FnScope n_law_order p_law_order (defScope s_law_order) := ⟨rfl, rfl, rfl, by decide +kernel, rfl, by decide +kernel, by decide +kernel⟩
abbrev n_law_given : List Str := ["pool", "row"]
abbrev p_law_given : List Str := ["pool", "row"]
theorem sc_law_given : FnScope n_law_given p_law_given (defScope s_law_given) := ⟨rfl, rfl, rfl, by decide +kernel, rfl, by decide +kernel, by decide +kernel⟩
def spOrder : Sp := fun vs H Q _ => ∃ (a : Addr) (m : Int), vs = [.ref a, .int m] ∧ PoolAt H a ∧ 0 ≤ m ∧ m ≤ 10000 ∧ ∀ (H' : Hp) (p : Addr) (ns : List Nat), Same H H' → H' p = some (.tup (ns.map nV)) → ns.Perm (List.range m.toNat) → Q (.ref p) H'
theorem ok_order (D : DefAt K mg "_law_order" "_law_order" s_law_order) (B : Bt mg) (h_law_take : Has P w K mg base CX0 2 "_law_take" p_law_take spTake) : Has P w K mg base CX0 3 "_law_order" p_law_order spOrder := by
  refine has_of D sc_law_order (fun _ _ _ _ _ _ us hl => match us, hl with | [_, _], _ => rfl) (fun vs H Q E h => ?_) (fun f cdv A outer s H vs Q E hr h => ?_)
  · obtain ⟨a, m, rfl, _⟩ := h
    rfl
  · obtain ⟨a, m, rfl, hp, h0, h1, q⟩ := h
    refine ⟨_, (pss_cons (ps_set (i := 2) sc_law_order.nd rfl (.inl rfl) (pe_listRg rfl rfl B.list (prg_1 rfl B.range (pv 1))))
  (pss_cons (ps_set (i := 3) sc_law_order.nd rfl (.inl rfl) (pe_tup pa_nil))
  (pss_cons (ps_for PassesOwn.never rfl (pi_range1 rfl B.range (pa_cons (pv 1) pa_nil)) (pg_name (i := 4) sc_law_order.nd rfl (.inl rfl)) (pss_one (ps_set (i := 3) sc_law_order.nd rfl (.inl rfl) (pe_op (catK (K := K) rfl) (pv 3) (pe_tup (pa_cons (pe_bm PySem.F.plainAttrs_list PySem.F.slot_list_pop PySem.F.type_list_pop mt_popAt (pv 2) (pa_cons (pe_h h_law_take hr pass0 (pa_cons (pv 0) (pa_cons (pe_callB (lenK (K := K) rfl) rfl B.len PySem.boot_len (pa_cons (pv 2) pa_nil)) pa_nil))) pa_nil)) pa_nil))))))
  (pss_one (ps_ret (pv 3)))))), ?_⟩
    refine ⟨_, rfl, m, rfl, .of_le (by decide) (by omega) (by decide) h0, fun l nl => ?_⟩
    rw [rgV_nat]
    refine ⟨Nat.zero_le _, fun t nt => ?_⟩
    refine ⟨_, rfl, m, rfl, by omega, by omega, for_range (lo := 0) (n := m.toNat) (fun i σ H' => ∃ (fp : Addr) (ls fs : List Nat) (y : Option V), σ = [some (.ref a), some (.int m), some (.ref l), some (.ref fp), y] ∧ Same H H' ∧ H' l = some (.lst (ls.map nV)) ∧ H' fp = some (.tup (fs.map nV)) ∧ fs.length = i ∧ (fs ++ ls).Perm (List.range m.toNat)) ?_ ?_ ?_⟩
    · refine ⟨t, List.range m.toNat, [], none, rfl, (same_upd nl).trans (same_upd nt), ?_, upd_same, rfl, List.Perm.refl _⟩
      rw [upd_ne, upd_same]
      intro e
      rw [← e, upd_same] at nt
      cases nt
    · rintro i σ H' hi ⟨fp, ls, fs, y, rfl, sm, hl, hf, ei, pm⟩
      have el : fs.length + ls.length = m.toNat := by
        have := pm.length_eq
        rwa [List.length_append, List.length_range] at this
      have hl0 : 0 < ls.length := by omega
      have nlH : H l = none := nl
      refine ⟨_, rfl, _, rfl, .inl ⟨rfl, _, SqL.of hl⟩, _, rfl, _, rfl, _, ls.length, rfl, .inl ⟨_, SqL.of hl, by rw [List.length_map]⟩, ?_⟩
      refine ⟨a, _, rfl, hp.same sm, by omega, by omega, fun r r0 r1 => ?_⟩
      have hk : r.toNat < ls.length := by omega
      refine ⟨l, _, r, r.toNat, nV ls[r.toNat], rfl, rfl, hl, by omega, by omega, ?_, getMap hk, ?_⟩
      · rw [List.length_map]; exact seqIndex_of r0 (by omega)
      refine ⟨by show 1 ≤ sizeLine; decide, fun T nT => ?_⟩
      have nfl : fp ≠ l := ne_of hf hl (fun e => by cases e)
      have nlT : l ≠ T := fun e => by rw [← e, upd_same] at nT; cases nT
      have nfT : fp ≠ T := fun e => by rw [← e, upd_ne nfl, hf] at nT; cases nT
      have hT : H' T = none := by rwa [upd_ne (Ne.symm nlT)] at nT
      have hf1 : (upd (upd H' l (.lst ((ls.map nV).eraseIdx r.toNat))) T (.tup [nV ls[r.toNat]])) fp = some (.tup (fs.map nV)) := by rw [upd_ne nfT, upd_ne nfl]; exact hf
      have hT1 : (upd (upd H' l (.lst ((ls.map nV).eraseIdx r.toNat))) T (.tup [nV ls[r.toNat]])) T = some (.tup [nV ls[r.toNat]]) := upd_same
      have hl1 : (upd (upd H' l (.lst ((ls.map nV).eraseIdx r.toNat))) T (.tup [nV ls[r.toNat]])) l = some (.lst ((ls.eraseIdx r.toNat).map nV)) := by rw [upd_ne nlT, upd_same, map_erase]
      have s1 : Same H (upd (upd H' l (.lst ((ls.map nV).eraseIdx r.toNat))) T (.tup [nV ls[r.toNat]])) := (same_mut sm nlH).trans (same_upd nT)
      have pm' : (fs ++ [ls[r.toNat]] ++ ls.eraseIdx r.toNat).Perm (List.range m.toNat) := by
        rw [List.append_assoc]
        exact ((erase_perm hk).append_left fs).trans pm
      refine ⟨fp, T, _, _, rfl, rfl, SqT.of hf1, SqT.of hT1, size_le (by rw [List.length_map]; show fs.length + 1 ≤ 100000; omega), fun e0 => ?_, fun _ e => (nomatch e), fun _ _ p np => ?_⟩
      · have e0 : fs = [] := List.map_eq_nil_iff.mp e0
        subst e0
        exact ⟨T, _, [ls[r.toNat]], _, rfl, s1, hl1, hT1, by rw [← ei]; rfl, pm'⟩
      · refine ⟨p, _, fs ++ [ls[r.toNat]], _, rfl, s1.trans (same_upd np), ?_, ?_, by rw [List.length_append, ei]; rfl, pm'⟩
        · rw [upd_ne (ne_of_none hl1 np)]; exact hl1
        · rw [upd_same, List.map_append]; rfl
    · rintro σ H' ⟨fp, ls, fs, y, rfl, sm, hl, hf, ei, pm⟩
      have el : fs.length + ls.length = m.toNat := by
        have := pm.length_eq
        rwa [List.length_append, List.length_range] at this
      have : ls = [] := List.eq_nil_of_length_eq_zero (by omega)
      subst this
      rw [List.append_nil] at pm
      exact ⟨_, rfl, q _ _ _ sm hf pm⟩
/-! ### _law_given -/
def spGiven (K : PySem.W.Frag) : Sp := fun vs H Q _ => ∃ (a b : Addr) (xs : List V), vs = [.ref a, .ref b] ∧ PoolAt H a ∧ (SqL K H b xs) ∧ ∀ (H' : Hp) (p : Addr), Same H H' → H p = none → (H' p = some (.lst xs) ∨ H' p = some (.tup xs)) → Q (.ref p) H'
theorem ok_given (D : DefAt K mg "_law_given" "_law_given" s_law_given) (B : Bt mg) (h_law_take : Has P w K mg base CX0 2 "_law_take" p_law_take spTake) : Has P w K mg base CX0 3 "_law_given" p_law_given (spGiven K) := by
  refine has_of D sc_law_given (fun _ _ _ _ _ _ us hl => match us, hl with | [_, _], _ => rfl) (fun vs H Q E h => ?_) (fun f cdv A outer s H vs Q E hr h => ?_)
  · obtain ⟨a, b, xs, rfl, _⟩ := h
    rfl
  · obtain ⟨a, b, xs, rfl, hp, hb, q⟩ := h
    refine ⟨_, (pss_one (ps_ret (pe_ifExp (pt_cmpR op_eq (pe_h h_law_take hr pass0 (pa_cons (pv 0) (pa_cons pe_int pa_nil))) pe_int (nomark _)) (pe_callTy (listK (K := K) rfl) rfl B.list (by decide +kernel) (pa_cons (pv 1) pa_nil)) (pe_callTy (tupK (K := K) rfl) rfl B.tuple (by decide +kernel) (pa_cons (pv 1) pa_nil))))), ?_⟩
    refine ⟨_, rfl, a, _, rfl, hp, by decide, by decide, fun r r0 r1 => ?_⟩
    refine ⟨rfl, _, rfl, ifD (fun _ => ?_) (fun _ => ?_)⟩
    · exact ⟨_, rfl, _, _, rfl, .inl hb, fun p np => q _ _ (same_upd np) np (.inl upd_same)⟩
    · exact ⟨_, rfl, _, _, rfl, .inl ⟨hb, fun p np => q _ _ (same_upd np) np (.inr upd_same)⟩⟩
end
end G3

set_option Elab.async false
set_option linter.all false
set_option maxRecDepth 100000
set_option maxHeartbeats 1000000
namespace G3
open PySem PySem.Spec PyProof.Rows L2
/-! ## lists of pairs -/
abbrev Pr : Type := Nat × Nat
def Prs (H : Hp) : List V → List Pr → Prop
  | [], [] => True
  | v :: vs, p :: ps => (∃ t, v = .ref t ∧ H t = some (.tup [nV p.1, nV p.2])) ∧ Prs H vs ps
  | _, _ => False
theorem Prs.mono {H H' : Hp} (e : ∀ t a b, H t = some (.tup [nV a, nV b]) → H' t = some (.tup [nV a, nV b])) : ∀ {vs : List V} {ps : List Pr}, Prs H vs ps → Prs H' vs ps
  | [], [], _ => True.intro
  | v :: vs, p :: ps, ⟨⟨t, h1, h2⟩, h⟩ => ⟨⟨t, h1, e _ _ _ h2⟩, Prs.mono e h⟩
  | [], _ :: _, h => h.elim
  | _ :: _, [], h => h.elim
theorem Prs.same {H H' : Hp} (e : Same H H') {vs : List V} {ps : List Pr} (h : Prs H vs ps) : Prs H' vs ps := h.mono fun t a b z => e _ _ z
theorem Prs.mut {H : Hp} {p : Addr} {xs : List V} {o : HO} (hp : H p = some (.lst xs)) {vs : List V} {ps : List Pr} (h : Prs H vs ps) : Prs (upd H p o) vs ps := h.mono fun t a b z => by
  rw [upd_ne (ne_of z hp (fun q => by cases q))]; exact z
theorem Prs.len {H : Hp} : ∀ {vs : List V} {ps : List Pr}, Prs H vs ps → vs.length = ps.length
  | [], [], _ => rfl
  | _ :: _, _ :: _, ⟨_, h⟩ => by rw [List.length_cons, List.length_cons, Prs.len h]
  | [], _ :: _, h => h.elim
  | _ :: _, [], h => h.elim
theorem Prs.app {H : Hp} : ∀ {vs ws : List V} {ps qs : List Pr}, Prs H vs ps → Prs H ws qs → Prs H (vs ++ ws) (ps ++ qs)
  | [], _, [], _, _, k => k
  | _ :: _, _, _ :: _, _, ⟨a, h⟩, k => ⟨a, Prs.app h k⟩
  | [], _, _ :: _, _, h, _ => h.elim
  | _ :: _, _, [], _, h, _ => h.elim
theorem Prs.get {H : Hp} : ∀ {vs : List V} {ps : List Pr} {i : Nat}, Prs H vs ps → (h : i < ps.length) → ∃ t, vs[i]? = some (.ref t) ∧ H t = some (.tup [nV ps[i].1, nV ps[i].2])
  | _ :: _, _ :: _, 0, ⟨⟨t, h1, h2⟩, _⟩, _ => ⟨t, by rw [h1]; rfl, h2⟩
  | _ :: vs, _ :: ps, i + 1, ⟨_, h⟩, hi => by
    obtain ⟨t, e, k⟩ := Prs.get (i := i) h (by simpa using hi)
    exact ⟨t, by simpa using e, k⟩
  | [], [], _, _, h => absurd h (by simp)
  | [], _ :: _, _, h, _ => h.elim
  | _ :: _, [], _, h, _ => h.elim
def PLst (H : Hp) (a : Addr) (ps : List Pr) : Prop := ∃ vs, H a = some (.lst vs) ∧ Prs H vs ps
theorem PLst.same {H H' : Hp} {a : Addr} {ps : List Pr} (e : Same H H') (h : PLst H a ps) : PLst H' a ps := by
  obtain ⟨vs, h1, h2⟩ := h
  exact ⟨vs, e _ _ h1, h2.same e⟩
/-- a new pair behind the list's end -/
theorem PLst.push {H H1 : Hp} {L T : Addr} {ps : List Pr} {a b : Nat} (h : PLst H L ps) (e : Same H H1) (nT : H1 T = none) :
    ∃ vs, (upd H1 T (.tup [nV a, nV b])) L = some (.lst vs) ∧ vs.length = ps.length ∧ PLst (upd (upd H1 T (.tup [nV a, nV b])) L (.lst (vs ++ [.ref T]))) L (ps ++ [(a, b)]) := by
  obtain ⟨vs, h1, h2⟩ := h
  have s1 : Same H1 (upd H1 T (.tup [nV a, nV b])) := same_upd nT
  have hL : (upd H1 T (.tup [nV a, nV b])) L = some (.lst vs) := s1 _ _ (e _ _ h1)
  refine ⟨vs, hL, h2.len, _, upd_same, ?_⟩
  refine Prs.app (Prs.mut hL (h2.same (e.trans s1))) ⟨⟨T, rfl, ?_⟩, True.intro⟩
  rw [upd_ne (ne_of (upd_same (H := H1) (a := T)) hL (fun q => by cases q)), upd_same]
/-- a pair that stands, behind the list's end -/
theorem PLst.push' {H : Hp} {L T : Addr} {ps : List Pr} {a b : Nat} (h : PLst H L ps) (hT : H T = some (.tup [nV a, nV b])) :
    ∃ vs, H L = some (.lst vs) ∧ vs.length = ps.length ∧ PLst (upd H L (.lst (vs ++ [.ref T]))) L (ps ++ [(a, b)]) := by
  obtain ⟨vs, h1, h2⟩ := h
  refine ⟨vs, h1, h2.len, _, upd_same, ?_⟩
  refine Prs.app (Prs.mut h1 h2) ⟨⟨T, rfl, ?_⟩, True.intro⟩
  rw [upd_ne (ne_of hT h1 (fun q => by cases q))]; exact hT

/-! ## edges by which all places are together -/
def Spans (n : Nat) (ps : List Pr) : Prop := ∀ f : Nat → Bool, (∀ e ∈ ps, f e.1 = f e.2) → ∀ i, i < n → f i = f 0
def Edg (n : Nat) (ps : List Pr) : Prop := ∀ e ∈ ps, e.1 ≠ e.2 ∧ e.1 < n ∧ e.2 < n
def Tree (ps : List Pr) : Prop := ∀ (j : Nat) (h : j < ps.length), ps[j].2 = j + 1 ∧ ps[j].1 ≤ j
theorem Tree.nil : Tree [] := fun j h => absurd h (by simp)
theorem Tree.app {ps : List Pr} {a b : Nat} (h : Tree ps) (hb : b = ps.length + 1) (ha : a ≤ ps.length) : Tree (ps ++ [(a, b)]) := fun j hj => by
  by_cases e : j < ps.length
  · rw [List.getElem_append_left e]; exact h j e
  · have ej : j = ps.length := by rw [List.length_append] at hj; simp at hj; omega
    subst ej
    rw [List.getElem_append_right (Nat.le_refl _)]
    simp
    exact ⟨hb, ha⟩
theorem Tree.spans {ps : List Pr} (h : Tree ps) : Spans (ps.length + 1) ps := fun f hf i => by
  induction i using Nat.strongRecOn with
  | _ i ih =>
    intro hi
    cases i with
    | zero => rfl
    | succ j =>
      have hj : j < ps.length := by omega
      obtain ⟨h2, h1⟩ := h j hj
      have e := hf _ (List.getElem_mem hj)
      rw [h2] at e
      rw [← e]
      exact ih _ (by omega) (by omega)
theorem Tree.edg {ps : List Pr} (h : Tree ps) : Edg (ps.length + 1) ps := fun e he => by
  obtain ⟨j, hj, rfl⟩ := List.getElem_of_mem he
  obtain ⟨h2, h1⟩ := h j hj
  omega
theorem Spans.app {n : Nat} {ps qs : List Pr} (h : Spans n ps) : Spans n (ps ++ qs) := fun f hf => h f fun e he => hf e (List.mem_append_left _ he)
theorem Edg.app {n : Nat} {ps qs : List Pr} (h : Edg n ps) (k : Edg n qs) : Edg n (ps ++ qs) := fun e he => (List.mem_append.mp he).elim (h e) (k e)
end G3

set_option Elab.async false
set_option linter.all false
set_option maxRecDepth 100000
set_option maxHeartbeats 2000000
namespace G3
open PySem PySem.Spec PyProof.Rows L2
def allPairs (n : Nat) : List Pr := (List.range n).flatMap fun v => (List.range v).map fun u => (u, v)
theorem allPairs_succ (n : Nat) : allPairs (n + 1) = allPairs n ++ (List.range n).map fun u => (u, n) := by
  unfold allPairs
  rw [List.range_succ, List.flatMap_append]
  simp
theorem mem_allPairs {n : Nat} {e : Pr} : e ∈ allPairs n ↔ e.1 < e.2 ∧ e.2 < n := by
  unfold allPairs
  rw [List.mem_flatMap]
  constructor
  · rintro ⟨v, hv, h⟩
    obtain ⟨u, hu, rfl⟩ := List.mem_map.mp h
    exact ⟨List.mem_range.mp hu, List.mem_range.mp hv⟩
  · rintro ⟨h1, h2⟩
    exact ⟨e.2, List.mem_range.mpr h2, List.mem_map.mpr ⟨e.1, List.mem_range.mpr h1, rfl⟩⟩
theorem allPairs_len2 (n : Nat) : 2 * (allPairs n).length = n * (n - 1) := by
  induction n with
  | zero => rfl
  | succ n ih =>
    rw [allPairs_succ, List.length_append, List.length_map, List.length_range, Nat.mul_add, ih]
    cases n with
    | zero => rfl
    | succ m =>
      show (m + 1) * m + 2 * (m + 1) = (m + 1 + 1) * (m + 1)
      rw [Nat.add_mul (m + 1) 1, Nat.mul_add (m + 1) m 1]
      omega
theorem allPairs_le (n : Nat) : (allPairs n).length ≤ n * n := by
  have := allPairs_len2 n
  have h : n * (n - 1) ≤ n * n := Nat.mul_le_mul_left _ (Nat.sub_le _ _)
  omega
section
variable {P : Program} {w : World} {K : PySem.W.Frag} {mg : Str → Option Value} {base : Heap}
abbrev n_law_all_pairs : List Str := ["n", "found", "v", "u"]
abbrev p_law_all_pairs : List Str := ["n"]
theorem sc_law_all_pairs : FnScope n_law_all_pairs p_law_all_pairs (defScope s_law_all_pairs) := ⟨rfl, rfl, rfl, by decide +kernel, rfl, by decide +kernel, by decide +kernel⟩
def spAllPairs : Sp := fun vs H Q _ => ∃ n : Nat, vs = [nV n] ∧ n ≤ 64 ∧ ∀ (H' : Hp) (p : Addr), Same H H' → H p = none → PLst H' p (allPairs n) → Q (.ref p) H'
theorem ok_all_pairs (D : DefAt K mg "_law_all_pairs" "_law_all_pairs" s_law_all_pairs) (B : Bt mg) : Has P w K mg base CX0 1 "_law_all_pairs" p_law_all_pairs spAllPairs := by
  refine has_of D sc_law_all_pairs (fun _ _ _ _ _ _ us hl => match us, hl with | [_], _ => rfl) (fun vs H Q E h => ?_) (fun f cdv A outer s H vs Q E hr h => ?_)
  · obtain ⟨n, rfl, _⟩ := h
    rfl
  · obtain ⟨n, rfl, hn, q⟩ := h
    refine ⟨_, (pss_cons (ps_set (i := 1) sc_law_all_pairs.nd rfl (.inl rfl) (pe_lst pa_nil))
  (pss_cons (ps_for PassesOwn.never rfl (pi_range1 rfl B.range (pa_cons (pv 0) pa_nil)) (pg_name (i := 2) sc_law_all_pairs.nd rfl (.inr rfl)) (pss_one (ps_set (i := 1) sc_law_all_pairs.nd rfl (.inl rfl) (pe_op op_cat (pv 1) (pe_lc (own := [("u", 3)]) (g := gName 3) (tt := tYes) rfl sc_law_all_pairs.nd (pi_range1 rfl B.range (pa_cons (pv 2) pa_nil)) (blkOk_by (N := n_law_all_pairs) (sc := defScope s_law_all_pairs) (by decide +kernel)) (fun _ _ _ _ _ => (pg_name (i := 3) sc_law_all_pairs.nd rfl (.inl rfl))) (fun _ _ _ _ _ => pts_nil) (fun _ _ _ _ _ => (pe_tup (pa_cons (pv 3) (pa_cons (pv 2) pa_nil)))))))))
  (pss_one (ps_ret (pv 1))))), ?_⟩
    refine ⟨Nat.zero_le _, fun p np => ?_⟩
    refine ⟨_, rfl, _, rfl, by omega, by omega, for_range (lo := 0) (n := n) (fun i σ H' => ∃ (p : Addr) (y : Option V), σ = [some (nV n), some (.ref p), y, none] ∧ Same H H' ∧ H p = none ∧ PLst H' p (allPairs i)) ?_ ?_ ?_⟩
    · exact ⟨p, none, rfl, same_upd np, np, [], upd_same, True.intro⟩
    · rintro i σ H' hi ⟨p, y, rfl, sm, np, pl⟩
      have ei : V.int (0 + (i : Int)) = nV i := by rw [Int.zero_add]
      rw [ei]
      refine ⟨_, rfl, _, rfl, _, rfl, by omega, by omega, fun L nL => ?_⟩
      refine lc_range (lo := 0) (n := i) (fun j H2 => Same H' H2 ∧ PLst H2 L ((List.range j).map fun u => (u, i))) ⟨same_upd nL, [], upd_same, True.intro⟩ ?_ ?_
      · rintro j H2 hj ⟨sm2, pl2⟩
        have ej : V.int (0 + (j : Int)) = nV j := by rw [Int.zero_add]
        rw [ej]
        refine ⟨rfl, yes_ ?_⟩
        refine ⟨_, rfl, _, rfl, by show 2 ≤ sizeLine; decide, fun T nT => ?_⟩
        obtain ⟨vs, h1, h2, h3⟩ := pl2.push (a := j) (b := i) (Same.refl H2) nT
        refine ⟨vs, h1, size_lt (by rw [h2, List.length_map, List.length_range]; omega), same_mut (sm2.trans (same_upd nT)) nL, ?_⟩
        rw [List.range_succ, List.map_append]
        exact h3
      · rintro H2 ⟨sm2, vs2, h1, h2⟩
        obtain ⟨vs, g1, g2⟩ := pl.same sm2
        have l1 := g2.len
        have l2 := h2.len
        have := allPairs_le i
        have h64 : i * i ≤ 64 * 64 := Nat.mul_le_mul (by omega) (by omega)
        rw [List.length_map, List.length_range] at l2
        refine ⟨p, L, _, _, rfl, rfl, g1, h1, size_le (by omega), fun p2 np2 => ?_⟩
        refine ⟨p2, _, rfl, (sm.trans sm2).trans (same_upd np2), (sm.trans sm2).free np2, _, upd_same, ?_⟩
        rw [allPairs_succ]
        exact Prs.same (same_upd np2) (Prs.app g2 h2)
    · rintro σ H' ⟨p, y, rfl, sm, np, pl⟩
      exact ⟨_, rfl, q _ _ sm np pl⟩
end
end G3

set_option Elab.async false
set_option linter.all false
set_option maxRecDepth 100000
set_option maxHeartbeats 2000000
namespace G3
open PySem PySem.Spec PyProof.Rows L2
/-! ## kinds of graphs -/
theorem allPairs_spans {n : Nat} : Spans n (allPairs n) := fun f hf i hi => by
  by_cases h : i = 0
  · rw [h]
  · exact (hf (0, i) (mem_allPairs.mpr ⟨Nat.pos_of_ne_zero h, hi⟩)).symm
theorem allPairs_edg {n : Nat} : Edg n (allPairs n) := fun e he => by
  obtain ⟨h1, h2⟩ := mem_allPairs.mp he
  omega
def bip (n h : Nat) : List Pr := (List.range (h * (n - h))).map fun k => (k / (n - h), h + k % (n - h))
theorem bip_mem {n h u v : Nat} (hn : h < n) (hu : u < h) (h1 : h ≤ v) (h2 : v < n) : (u, v) ∈ bip n h := by
  refine List.mem_map.mpr ⟨u * (n - h) + (v - h), List.mem_range.mpr ?_, ?_⟩
  · have : (u + 1) * (n - h) ≤ h * (n - h) := Nat.mul_le_mul_right _ hu
    rw [Nat.add_mul, Nat.one_mul] at this
    omega
  · have p : 0 < n - h := by omega
    have q : v - h < n - h := by omega
    rw [Nat.mul_comm u, Nat.mul_add_div p, Nat.div_eq_of_lt q, Nat.mul_add_mod, Nat.mod_eq_of_lt q]
    simp
    omega
theorem bip_edg {n h : Nat} (hn : h < n) : Edg n (bip n h) := fun e he => by
  obtain ⟨k, hk, rfl⟩ := List.mem_map.mp he
  have hk := List.mem_range.mp hk
  have p : 0 < n - h := by omega
  have h1 : k / (n - h) < h := (Nat.div_lt_iff_lt_mul p).mpr hk
  have h2 : k % (n - h) < n - h := Nat.mod_lt _ p
  show k / (n - h) ≠ h + k % (n - h) ∧ k / (n - h) < n ∧ h + k % (n - h) < n
  omega
theorem bip_spans {n h : Nat} (h0 : 0 < h) (hn : h < n) : Spans n (bip n h) := fun f hf i hi => by
  have a : ∀ v, h ≤ v → v < n → f v = f 0 := fun v h1 h2 => (hf _ (bip_mem hn h0 h1 h2)).symm
  by_cases c : i < h
  · rw [hf _ (bip_mem hn c (Nat.le_refl h) hn)]
    exact a h (Nat.le_refl h) hn
  · exact a i (by omega) hi
theorem bip_len {n h : Nat} : (bip n h).length = h * (n - h) := by
  unfold bip
  rw [List.length_map, List.length_range]
theorem bip_get {n h i : Nat} (hi : i < h * (n - h)) : (bip n h)[i]? = some (i / (n - h), h + i % (n - h)) := by
  unfold bip
  rw [List.getElem?_map, List.getElem?_range hi]; rfl
/-- an edge (min, max) after places are called otherwise -/
def relabel (o : List Nat) (e : Pr) : Pr := (min (o.getD e.1 0) (o.getD e.2 0), max (o.getD e.1 0) (o.getD e.2 0))
def Good (n : Nat) (es : List Pr) : Prop := (∀ e ∈ es, e.1 < e.2 ∧ e.2 < n) ∧ Spans n es
theorem relabel_good {n : Nat} {o : List Nat} {ps : List Pr} (hn : 0 < n) (ho : o.Perm (List.range n)) (h1 : Edg n ps) (h2 : Spans n ps) : Good n (ps.map (relabel o)) := by
  have hl : o.length = n := by rw [ho.length_eq, List.length_range]
  have hnd : o.Nodup := ho.nodup_iff.mpr List.nodup_range
  have lt : ∀ i, i < n → o.getD i 0 < n := fun i hi => by
    have hi' : i < o.length := by omega
    rw [List.getD_eq_getElem?_getD, List.getElem?_eq_getElem hi']
    exact List.mem_range.mp (ho.mem_iff.mp (List.getElem_mem hi'))
  have inj : ∀ i j, i < n → j < n → o.getD i 0 = o.getD j 0 → i = j := fun i j hi hj e => by
    have hi' : i < o.length := by omega
    have hj' : j < o.length := by omega
    rw [List.getD_eq_getElem?_getD, List.getElem?_eq_getElem hi', List.getD_eq_getElem?_getD, List.getElem?_eq_getElem hj'] at e
    exact (List.getElem_inj hnd).mp e
  constructor
  · intro e he
    obtain ⟨p, hp, rfl⟩ := List.mem_map.mp he
    obtain ⟨k1, k2, k3⟩ := h1 p hp
    have := lt _ k2
    have := lt _ k3
    have : o.getD p.1 0 ≠ o.getD p.2 0 := fun e => k1 (inj _ _ k2 k3 e)
    show min _ _ < max _ _ ∧ max _ _ < n
    omega
  · intro f hf
    have key : ∀ i, i < n → f (o.getD i 0) = f (o.getD 0 0) := h2 (fun i => f (o.getD i 0)) fun p hp => by
      have e := hf _ (List.mem_map.mpr ⟨p, hp, rfl⟩)
      have e : f (min (o.getD p.1 0) (o.getD p.2 0)) = f (max (o.getD p.1 0) (o.getD p.2 0)) := e
      show f (o.getD p.1 0) = f (o.getD p.2 0)
      by_cases c : o.getD p.1 0 ≤ o.getD p.2 0
      · rwa [Nat.min_eq_left c, Nat.max_eq_right c] at e
      · have c : o.getD p.2 0 ≤ o.getD p.1 0 := by omega
        rw [Nat.min_eq_right c, Nat.max_eq_left c] at e
        exact e.symm
    have sur : ∀ v, v < n → ∃ i, i < n ∧ o.getD i 0 = v := fun v hv => by
      have hm : v ∈ o := ho.mem_iff.mpr (List.mem_range.mpr hv)
      obtain ⟨i, hi, e⟩ := List.getElem_of_mem hm
      refine ⟨i, by omega, ?_⟩
      rw [List.getD_eq_getElem?_getD, List.getElem?_eq_getElem hi]
      exact e
    intro v hv
    obtain ⟨i, hi, rfl⟩ := sur v hv
    obtain ⟨j, hj, e0⟩ := sur 0 hn
    have kj := key j hj
    rw [e0] at kj
    exact (key i hi).trans kj.symm
theorem Good.perm {n : Nat} {es fs : List Pr} (h : Good n es) (hp : fs.Perm es) : Good n fs :=
  ⟨fun e he => h.1 e (hp.mem_iff.mp he), fun f hf => h.2 f fun e he => hf e (hp.mem_iff.mpr he)⟩
/-- a row read in the order of a permutation -/
def pick (es : List Pr) (o : List Nat) : List Pr := o.map fun k => es.getD k (0, 0)
theorem pick_perm {es : List Pr} {o : List Nat} (ho : o.Perm (List.range es.length)) : (pick es o).Perm es := by
  refine (ho.map _).trans ?_
  have e : ((List.range es.length).map fun k => es.getD k (0, 0)) = es := by
    apply List.ext_getElem
    · rw [List.length_map, List.length_range]
    · intro i h1 h2
      rw [List.getElem_map, List.getElem_range, List.getD_eq_getElem?_getD, List.getElem?_eq_getElem h2]
      rfl
  rw [e]

def TreeAt (H0 : Hp) (L : Addr) (i : Nat) (H2 : Hp) : Prop := Same H0 H2 ∧ ∃ ps, PLst H2 L ps ∧ Tree ps ∧ ps.length = i
theorem treeAt_nil {H0 : Hp} {L : Addr} (nL : H0 L = none) : TreeAt H0 L 0 (upd H0 L (.lst [])) := ⟨same_upd nL, [], ⟨[], upd_same, True.intro⟩, Tree.nil, rfl⟩
theorem tree_push {H0 H2 : Hp} {L T : Addr} {i x : Nat} {v : V} (nL : H0 L = none) (h : TreeAt H0 L i H2) (nT : H2 T = none) (hv : v = nV x) (hx : x ≤ i) (hi : i < 1000) :
    ∃ acc, (upd H2 T (.tup [v, nV (i + 1)])) L = some (.lst acc) ∧ acc.length < sizeLine ∧ TreeAt H0 L (i + 1) (upd (upd H2 T (.tup [v, nV (i + 1)])) L (.lst (acc ++ [.ref T]))) := by
  subst hv
  obtain ⟨sm, ps, pl, tr, el⟩ := h
  obtain ⟨vs, h1, h2, h3⟩ := pl.push (a := x) (b := i + 1) (Same.refl H2) nT
  refine ⟨vs, h1, size_lt (by omega), same_mut (sm.trans (same_upd nT)) nL, _, h3, tr.app (by omega) (by omega), by rw [List.length_append, el]; rfl⟩
theorem PLst.pushV {H H1 : Hp} {L T : Addr} {ps : List Pr} {a b : Nat} {v u : V} (h : PLst H L ps) (e : Same H H1) (nT : H1 T = none) (hv : v = nV a) (hu : u = nV b) :
    ∃ vs, (upd H1 T (.tup [v, u])) L = some (.lst vs) ∧ vs.length = ps.length ∧ PLst (upd (upd H1 T (.tup [v, u])) L (.lst (vs ++ [.ref T]))) L (ps ++ [(a, b)]) := by
  subst hv; subst hu
  exact h.push e nT
theorem mod_other {n x y : Nat} (hx : x < n) (hy : y + 1 < n) : (x + 1 + y) % n ≠ x ∧ (x + 1 + y) % n < n := by
  refine ⟨?_, Nat.mod_lt _ (by omega)⟩
  by_cases h : x + 1 + y < n
  · rw [Nat.mod_eq_of_lt h]; omega
  · rw [Nat.mod_eq_sub_mod (by omega), Nat.mod_eq_of_lt (by omega)]; omega
theorem TreeAt.same {H0 H2 H3 : Hp} {L : Addr} {i : Nat} (t : TreeAt H0 L i H2) (e : Same H2 H3) : TreeAt H0 L i H3 := by
  obtain ⟨sm, ps, pl, r⟩ := t
  exact ⟨sm.trans e, ps, pl.same e, r⟩
theorem PLst.size {H : Hp} {a : Addr} {ps : List Pr} (h : PLst H a ps) : ∃ vs, H a = some (.lst vs) ∧ vs.length = ps.length := by
  obtain ⟨vs, h1, h2⟩ := h
  exact ⟨vs, h1, h2.len⟩
section
variable {P : Program} {w : World} {K : PySem.W.Frag} {mg : Str → Option Value} {base : Heap}
abbrev n_law_graph : List Str := ["pool", "most", "genus", "n", "kind", "more", "pairs", "half", "first", "turn", "one", "other", "order", "edges", "k", "u", "v"]
abbrev p_law_graph : List Str := ["pool", "most", "genus"]
theorem sc_law_graph : FnScope n_law_graph p_law_graph (defScope s_law_graph) := ⟨rfl, rfl, rfl, by decide +kernel, rfl, by decide +kernel, by decide +kernel⟩
/-- a graph drawn: 1 to most places, edges by which all are together, of a genus of at most a number -/
def spGraph : Sp := fun vs H Q _ => ∃ (a : Addr) (most genus : Int), vs = [.ref a, .int most, .int genus] ∧ PoolAt H a ∧ 1 ≤ most ∧ most ≤ 64 ∧ 0 ≤ genus ∧ genus ≤ 337 ∧
  ∀ (H' : Hp) (t l : Addr) (n : Nat) (es : List Pr), Same H H' → H' t = some (.tup [nV n, .ref l]) → H l = none → PLst H' l es → 1 ≤ n → (n : Int) ≤ most → Good n es → es.length + 1 ≤ n + genus → Q (.ref t) H'
/-- what stands behind the choice of a kind -/
def MidG (H : Hp) (a : Addr) (most genus kind : Int) (n : Nat) (σ : L2.St) (H' : Hp) : Prop := ∃ (pp : Addr) (mr : Int) (ps : List Pr) (yh : Option V),
  σ = [some (.ref a), some (.int most), some (.int genus), some (nV n), some (.int kind), some (.int mr), some (.ref pp), yh, none, none, none, none, none, none, none, none, none] ∧
  Same H H' ∧ H pp = none ∧ PLst H' pp ps ∧ 0 ≤ mr ∧ (ps.length : Int) + mr + 1 ≤ n + genus ∧ 1 ≤ ps.length ∧ Edg n ps ∧ Spans n ps
theorem midG_tree {H0 H H1 : Hp} {L a : Addr} {n : Nat} {most genus kind mr : Int} {yh : Option V} (t : TreeAt H L (n - 1) H1) (sm0 : Same H0 H) (nL : H L = none) (hn : 2 ≤ n) (x0 : 0 ≤ mr) (x1 : mr ≤ genus) :
    MidG H0 a most genus kind n [some (.ref a), some (.int most), some (.int genus), some (nV n), some (.int kind), some (.int mr), some (.ref L), yh, none, none, none, none, none, none, none, none, none] H1 := by
  obtain ⟨sm, ps, pl, tr, el⟩ := t
  have e : ps.length + 1 = n := by omega
  exact ⟨L, mr, ps, yh, rfl, sm0.trans sm, sm0.free nL, pl, x0, by omega, by omega, e ▸ tr.edg, e ▸ tr.spans⟩
theorem ok_graph (D : DefAt K mg "_law_graph" "_law_graph" s_law_graph) (B : Bt mg) (h_law_take : Has P w K mg base CX0 2 "_law_take" p_law_take spTake) (h_law_pick : Has P w K mg base CX0 3 "_law_pick" p_law_pick (spPick K))
    (h_law_order : Has P w K mg base CX0 3 "_law_order" p_law_order spOrder) (h_law_all_pairs : Has P w K mg base CX0 1 "_law_all_pairs" p_law_all_pairs spAllPairs) : Has P w K mg base CX0 4 "_law_graph" p_law_graph spGraph := by
  refine has_of D sc_law_graph (fun _ _ _ _ _ _ us hl => match us, hl with | [_, _, _], _ => rfl) (fun vs H Q E h => ?_) (fun f cdv A outer s H vs Q E hr h => ?_)
  · obtain ⟨a, most, genus, rfl, _⟩ := h
    rfl
  · obtain ⟨a, most, genus, rfl, hp, m1, m2, g1, g2, q⟩ := h
    refine ⟨_, (Evl.pss_cut (ps_set (i := 3) sc_law_graph.nd rfl (.inr rfl) (pe_op op_add pe_int (pe_h h_law_take hr pass0 (pa_cons (pv 0) (pa_cons (pv 1) pa_nil)))))
  (pss_cons (ps_set (i := 4) sc_law_graph.nd rfl (.inl rfl) (pe_h h_law_take hr pass0 (pa_cons (pv 0) (pa_cons pe_int pa_nil))))
  (pss_cons (ps_set (i := 5) sc_law_graph.nd rfl (.inl rfl) (pe_h h_law_take hr pass0 (pa_cons (pv 0) (pa_cons (pe_op op_add (pv 2) pe_int) pa_nil))))
  (pss_cons (ps_if (pt_cmpR op_eq (pv 3) pe_int (nomark _)) (pss_one (ps_ret (pe_tup (pa_cons pe_int (pa_cons (pe_lst pa_nil) pa_nil))))) pss_nil)
  (pss_cons (ps_setLc (i := 6) (own := [("k", 14)]) (g := gName 14) (tt := tYes) rfl sc_law_graph.nd rfl rfl (sw_true rfl rfl rfl (by decide +kernel)) (pi_range2 rfl B.range (pa_cons pe_int (pa_cons (pv 3) pa_nil))) (blkOk_by (N := n_law_graph) (sc := defScope s_law_graph) (by decide +kernel)) (fun _ _ _ _ _ => (pg_name (i := 14) sc_law_graph.nd rfl (.inl rfl))) (fun _ _ _ _ _ => pts_nil) (fun _ _ _ _ _ => (pe_tup (pa_cons (pe_h h_law_take hr pass0 (pa_cons (pv 0) (pa_cons (pv 14) pa_nil))) (pa_cons (pv 14) pa_nil)))))
  (Evl.pss_cut (ps_if (pt_cmpR op_eq (pv 4) pe_int (nomark _)) (pss_one (ps_setLc (i := 6) (own := [("k", 14)]) (g := gName 14) (tt := tYes) rfl sc_law_graph.nd rfl rfl (sw_true rfl rfl rfl (by decide +kernel)) (pi_range2 rfl B.range (pa_cons pe_int (pa_cons (pv 3) pa_nil))) (blkOk_by (N := n_law_graph) (sc := defScope s_law_graph) (by decide +kernel)) (fun _ _ _ _ _ => (pg_name (i := 14) sc_law_graph.nd rfl (.inl rfl))) (fun _ _ _ _ _ => pts_nil) (fun _ _ _ _ _ => (pe_tup (pa_cons (pe_op op_sub (pv 14) pe_int) (pa_cons (pv 14) pa_nil)))))) (pss_one (ps_if (pt_cmpR op_eq (pv 4) pe_int (nomark _)) (pss_one (ps_setLc (i := 6) (own := [("k", 14)]) (g := gName 14) (tt := tYes) rfl sc_law_graph.nd rfl rfl (sw_true rfl rfl rfl (by decide +kernel)) (pi_range2 rfl B.range (pa_cons pe_int (pa_cons (pv 3) pa_nil))) (blkOk_by (N := n_law_graph) (sc := defScope s_law_graph) (by decide +kernel)) (fun _ _ _ _ _ => (pg_name (i := 14) sc_law_graph.nd rfl (.inl rfl))) (fun _ _ _ _ _ => pts_nil) (fun _ _ _ _ _ => (pe_tup (pa_cons pe_int (pa_cons (pv 14) pa_nil)))))) (pss_one (ps_if (PW.pt (pw_and (pt_cmpR op_eq (pv 4) pe_int (nomark _)) (pw_and1 (pt_cmpR op_ge (pv 2) pe_int (nomark _))))) (pss_cons (ps_set (i := 6) sc_law_graph.nd rfl (.inl rfl) (pe_op op_cat (pe_lc (own := [("k", 14)]) (g := gName 14) (tt := tYes) rfl sc_law_graph.nd (pi_range2 rfl B.range (pa_cons pe_int (pa_cons (pv 3) pa_nil))) (blkOk_by (N := n_law_graph) (sc := defScope s_law_graph) (by decide +kernel)) (fun _ _ _ _ _ => (pg_name (i := 14) sc_law_graph.nd rfl (.inl rfl))) (fun _ _ _ _ _ => pts_nil) (fun _ _ _ _ _ => (pe_tup (pa_cons (pe_op op_sub (pv 14) pe_int) (pa_cons (pv 14) pa_nil))))) (pe_lst (pa_cons (pe_tup (pa_cons pe_int (pa_cons (pe_op op_sub (pv 3) pe_int) pa_nil))) pa_nil))))
  (pss_one (ps_set (i := 5) sc_law_graph.nd rfl (.inl rfl) (pe_callB (call_min2 rfl) rfl B.min (by decide +kernel) (pa_cons (pv 5) (pa_cons (pe_op op_sub (pv 2) pe_int) pa_nil)))))) (pss_one (ps_if (PW.pt (pw_and (pt_cmpR op_eq (pv 4) pe_int (nomark _)) (pw_and1 (pt_cmpR op_le (pe_callTy call_int1 rfl B.int (by decide +kernel) (pa_cons (pe_op op_fdiv (pe_op op_mul (pe_op op_sub (pv 3) pe_int) (pe_op op_sub (pv 3) pe_int)) pe_int) pa_nil)) (pv 2) (nomark _))))) (pss_one (ps_par (i := 6) (j := 5) rfl sc_law_graph.nd rfl rfl (by decide) rfl rfl (pa_cons (pe_h h_law_all_pairs hr pass0 (pa_cons (pv 3) pa_nil)) (pa_cons pe_int pa_nil)) rfl)) (pss_one (ps_if (PW.pt (pw_and (pt_cmpR op_eq (pv 4) pe_int (nomark _)) (pw_and (pt_cmpR op_gt (pv 3) pe_int (nomark _)) (pw_and1 (pt_cmpR op_le (pe_op op_add (pe_op op_sub (pe_op op_mul (pe_callTy call_int1 rfl B.int (by decide +kernel) (pa_cons (pe_op op_fdiv (pv 3) pe_int) pa_nil)) (pe_op op_sub (pv 3) (pe_callTy call_int1 rfl B.int (by decide +kernel) (pa_cons (pe_op op_fdiv (pv 3) pe_int) pa_nil)))) (pv 3)) pe_int) (pv 2) (nomark _)))))) (pss_cons (ps_set (i := 7) sc_law_graph.nd rfl (.inr rfl) (pe_callTy call_int1 rfl B.int (by decide +kernel) (pa_cons (pe_op op_fdiv (pv 3) pe_int) pa_nil)))
  (pss_one (ps_par (i := 6) (j := 5) rfl sc_law_graph.nd rfl rfl (by decide) rfl rfl (pa_cons (pe_lc (own := [("k", 14)]) (g := gName 14) (tt := tYes) rfl sc_law_graph.nd (pi_range1 rfl B.range (pa_cons (pe_op op_mul (pv 7) (pe_op op_sub (pv 3) (pv 7))) pa_nil)) (blkOk_by (N := n_law_graph) (sc := defScope s_law_graph) (by decide +kernel)) (fun _ _ _ _ _ => (pg_name (i := 14) sc_law_graph.nd rfl (.inl rfl))) (fun _ _ _ _ _ => pts_nil) (fun _ _ _ _ _ => (pe_tup (pa_cons (pe_callTy call_int1 rfl B.int (by decide +kernel) (pa_cons (pe_op op_fdiv (pv 14) (pe_op op_sub (pv 3) (pv 7))) pa_nil)) (pa_cons (pe_op op_add (pv 7) (pe_op op_mod (pe_callTy call_int1 rfl B.int (by decide +kernel) (pa_cons (pv 14) pa_nil)) (pe_op op_sub (pv 3) (pv 7)))) pa_nil))))) (pa_cons pe_int pa_nil)) rfl))) (pss_one (ps_if (pt_cmpR op_eq (pv 4) pe_int (nomark _)) (pss_one (ps_setLc (i := 6) (own := [("k", 14)]) (g := gName 14) (tt := tYes) rfl sc_law_graph.nd rfl rfl (sw_true rfl rfl rfl (by decide +kernel)) (pi_range2 rfl B.range (pa_cons pe_int (pa_cons (pv 3) pa_nil))) (blkOk_by (N := n_law_graph) (sc := defScope s_law_graph) (by decide +kernel)) (fun _ _ _ _ _ => (pg_name (i := 14) sc_law_graph.nd rfl (.inl rfl))) (fun _ _ _ _ _ => pts_nil) (fun _ _ _ _ _ => (pe_tup (pa_cons (pe_h h_law_pick hr pass0 (pa_cons (pv 0) (pa_cons (pe_lst (pa_cons pe_int (pa_cons (pe_op op_sub (pv 14) pe_int) pa_nil))) pa_nil))) (pa_cons (pv 14) pa_nil)))))) pss_nil)))))))))))
  (pss_cons (ps_set (i := 8) sc_law_graph.nd rfl (.inl rfl) (pe_ix (ixL (K := K) rfl) (pv 6) (pe_h h_law_take hr pass0 (pa_cons (pv 0) (pa_cons (pe_callB (lenK (K := K) rfl) rfl B.len PySem.boot_len (pa_cons (pv 6) pa_nil)) pa_nil))) (fun _ _ => rfl)))
  (Evl.pss_cut (ps_for PassesOwn.never rfl (pi_range1 rfl B.range (pa_cons (pv 5) pa_nil)) (pg_name (i := 9) sc_law_graph.nd rfl (.inl rfl)) (pss_cons (ps_set (i := 10) sc_law_graph.nd rfl (.inl rfl) (pe_h h_law_take hr pass0 (pa_cons (pv 0) (pa_cons (pv 3) pa_nil))))
  (pss_cons (ps_set (i := 11) sc_law_graph.nd rfl (.inl rfl) (pe_op op_mod (pe_callTy call_int1 rfl B.int (by decide +kernel) (pa_cons (pe_op op_add (pe_op op_add (pv 10) pe_int) (pe_h h_law_take hr pass0 (pa_cons (pv 0) (pa_cons (pe_op op_sub (pv 3) pe_int) pa_nil)))) pa_nil)) (pv 3)))
  (pss_one (ps_expr (pe_bm PySem.F.plainAttrs_list PySem.F.slot_list_append PySem.F.type_list_append mt_append (pv 6) (pa_cons (pe_ifExp (pt_cmpR op_eq (pe_h h_law_take hr pass0 (pa_cons (pv 0) (pa_cons pe_int pa_nil))) pe_int (nomark _)) (pv 8) (pe_tup (pa_cons (pv 10) (pa_cons (pv 11) pa_nil)))) pa_nil)))))))
  (pss_cons (ps_set (i := 12) sc_law_graph.nd rfl (.inr rfl) (pe_h h_law_order hr pass0 (pa_cons (pv 0) (pa_cons (pv 3) pa_nil))))
  (pss_cons (ps_set (i := 13) sc_law_graph.nd rfl (.inr rfl) (pe_lc (own := [("u", 15), ("v", 16)]) (g := _) (tt := tYes) rfl sc_law_graph.nd (piL (K := K) rfl (pv 6)) (blkOk_by (N := n_law_graph) (sc := defScope s_law_graph) (by decide +kernel)) (fun _ _ _ _ _ => (pgT (K := K) (n := 2) rfl rfl (pgs_cons (pg_name (i := 15) sc_law_graph.nd rfl (.inl rfl)) (pgs_cons (pg_name (i := 16) sc_law_graph.nd rfl (.inl rfl)) pgs_nil)))) (fun _ _ _ _ _ => pts_nil) (fun _ _ _ _ _ => (pe_tup (pa_cons (pe_callB (call_min2 rfl) rfl B.min (by decide +kernel) (pa_cons (pe_ix (ixT (K := K) rfl) (pv 12) (pv 15) (fun _ _ => rfl)) (pa_cons (pe_ix (ixT (K := K) rfl) (pv 12) (pv 16) (fun _ _ => rfl)) pa_nil))) (pa_cons (pe_callB (call_max2 rfl) rfl B.max (by decide +kernel) (pa_cons (pe_ix (ixT (K := K) rfl) (pv 12) (pv 15) (fun _ _ => rfl)) (pa_cons (pe_ix (ixT (K := K) rfl) (pv 12) (pv 16) (fun _ _ => rfl)) pa_nil))) pa_nil))))))
  (pss_one (ps_ret (pe_tup (pa_cons (pv 3) (pa_cons (pe_lc (own := [("k", 14)]) (g := gName 14) (tt := tYes) rfl sc_law_graph.nd (piT (K := K) rfl (pe_h h_law_order hr pass0 (pa_cons (pv 0) (pa_cons (pe_callB (lenK (K := K) rfl) rfl B.len PySem.boot_len (pa_cons (pv 13) pa_nil)) pa_nil)))) (blkOk_by (N := n_law_graph) (sc := defScope s_law_graph) (by decide +kernel)) (fun _ _ _ _ _ => (pg_name (i := 14) sc_law_graph.nd rfl (.inl rfl))) (fun _ _ _ _ _ => pts_nil) (fun _ _ _ _ _ => (pe_ix (ixL (K := K) rfl) (pv 13) (pv 14) (fun _ _ => rfl)))) pa_nil))))))))))))))), ?_⟩
    refine ⟨fun σ' H' => H' = H ∧ ∃ n : Nat, 1 ≤ n ∧ (n : Int) ≤ most ∧ σ' = [some (.ref a), some (.int most), some (.int genus), some (nV n), none, none, none, none, none, none, none, none, none, none, none, none, none], ?_, ?_⟩
    · refine ⟨_, rfl, _, rfl, a, _, rfl, hp, by omega, by omega, fun r r0 r1 => ⟨_, _, rfl, rfl, rfl, (1 + r).toNat, by omega, by omega, ?_⟩⟩
      have e : V.int (1 + r) = nV (1 + r).toNat := congrArg V.int (by omega)
      show [_, _, _, some (V.int (1 + r)), _, _, _, _, _, _, _, _, _, _, _, _, _] = _
      rw [e]
    rintro σ' H' ⟨rfl, n, n1, n2, rfl⟩
    refine ⟨_, rfl, a, _, rfl, hp, by decide, by decide, fun kind k0 k1 => ?_⟩
    refine ⟨_, rfl, _, rfl, _, _, rfl, rfl, a, _, rfl, hp, by omega, by omega, fun more x0 x1 => ?_⟩
    refine ⟨_, rfl, rfl, _, rfl, ifD (fun e => ?_) (fun e => ?_)⟩
    · have e : (n : Int) = 1 := V.int.inj e
      have e : n = 1 := by omega
      subst e
      refine ⟨Nat.zero_le _, fun l nl => ⟨by show 2 ≤ sizeLine; decide, fun t nt => ?_⟩⟩
      refine q _ t l 1 [] ((same_upd nl).trans (same_upd nt)) upd_same nl ⟨[], ?_, True.intro⟩ n1 n2 ⟨fun e he => (nomatch he), fun f _ i hi => ?_⟩ (by simp; omega)
      · have : l ≠ t := fun e => by rw [← e, upd_same] at nt; cases nt
        rw [upd_ne this, upd_same]
      · have : i = 0 := by omega
        rw [this]
    · have n3 : 2 ≤ n := by
        have : n ≠ 1 := fun h => e (by rw [h]; rfl)
        omega
      have ek : ∀ i : Nat, V.int (1 + (i : Int)) = nV (i + 1) := fun i => congrArg V.int (by omega)
      have eN : ((n : Int) - 1).toNat = n - 1 := by omega
      -- pairs = ..
      refine ⟨_, rfl, 1, _, rfl, ⟨by omega, by omega, by omega, by omega⟩, fun L nL => ?_⟩
      refine lc_range (lo := 1) (n := ((n : Int) - 1).toNat) (TreeAt H' L) (treeAt_nil nL) ?_ ?_
      · rintro i H2 hi t
        rw [ek i]
        refine ⟨rfl, yes_ ?_⟩
        refine ⟨_, rfl, _, rfl, a, _, rfl, hp.same t.1, by omega, by omega, fun r r0 r1 => ⟨_, rfl, by show 2 ≤ sizeLine; decide, fun T nT => ?_⟩⟩
        obtain ⟨x, rfl⟩ : ∃ x : Nat, r = x := ⟨r.toNat, by omega⟩
        exact tree_push nL t nT rfl (by omega) (by omega)
      intro H1 t1
      rw [eN] at t1
      have hp1 : PoolAt H1 a := hp.same t1.1
      refine ⟨MidG H' a most genus kind n, ?_, ?_⟩
      · -- the kinds
        refine ⟨_, rfl, rfl, _, rfl, ifD (fun _ => ?_) (fun _ => ?_)⟩
        · refine ⟨_, rfl, 1, _, rfl, ⟨by omega, by omega, by omega, by omega⟩, fun L2 nL2 => ?_⟩
          refine lc_range (lo := 1) (n := ((n : Int) - 1).toNat) (TreeAt H1 L2) (treeAt_nil nL2) ?_ ?_
          · rintro i H2 hi t
            rw [ek i]
            refine ⟨rfl, yes_ ?_⟩
            refine ⟨_, rfl, _, _, rfl, rfl, _, rfl, by show 2 ≤ sizeLine; decide, fun T nT => ?_⟩
            exact tree_push nL2 t nT (congrArg V.int (by omega : ((i + 1 : Nat) : Int) - 1 = (i : Int))) (Nat.le_refl _) (by omega)
          · intro H2 t
            rw [eN] at t
            exact midG_tree t t1.1 nL2 n3 x0 (by omega)
        refine ⟨_, rfl, rfl, _, rfl, ifD (fun _ => ?_) (fun _ => ?_)⟩
        · refine ⟨_, rfl, 1, _, rfl, ⟨by omega, by omega, by omega, by omega⟩, fun L2 nL2 => ?_⟩
          refine lc_range (lo := 1) (n := ((n : Int) - 1).toNat) (TreeAt H1 L2) (treeAt_nil nL2) ?_ ?_
          · rintro i H2 hi t
            rw [ek i]
            refine ⟨rfl, yes_ ?_⟩
            refine ⟨_, rfl, by show 2 ≤ sizeLine; decide, fun T nT => ?_⟩
            exact tree_push (x := 0) nL2 t nT rfl (Nat.zero_le _) (by omega)
          · intro H2 t
            rw [eN] at t
            exact midG_tree t t1.1 nL2 n3 x0 (by omega)
        -- elif kind == 4 and genus >= 1
        refine st_ite (ans_and2 (fun Q q => ⟨_, rfl, rfl, _, rfl, q⟩) (fun Q q => ⟨_, rfl, _, _, rfl, rfl, _, rfl, q⟩)) (fun hc => ?_) (fun _ => ?_)
        · have hg : (1 : Int) ≤ genus := of_decide_eq_true (Bool.and_eq_true_iff.mp hc).2
          refine ⟨_, rfl, 1, _, rfl, ⟨by omega, by omega, by omega, by omega⟩, fun L2 nL2 => ?_⟩
          refine lc_range (lo := 1) (n := ((n : Int) - 1).toNat) (TreeAt H1 L2) (treeAt_nil nL2) ?_ ?_
          · rintro i H2 hi t
            rw [ek i]
            refine ⟨rfl, yes_ ?_⟩
            refine ⟨_, rfl, _, _, rfl, rfl, _, rfl, by show 2 ≤ sizeLine; decide, fun T nT => ?_⟩
            exact tree_push nL2 t nT (congrArg V.int (by omega : ((i + 1 : Nat) : Int) - 1 = (i : Int))) (Nat.le_refl _) (by omega)
          · intro H2 t
            rw [eN] at t
            obtain ⟨sm2, ps, ⟨vs, pl1, pl2⟩, tr, el⟩ := t
            refine ⟨_, rfl, _, _, rfl, rfl, by show 2 ≤ sizeLine; decide, fun T nT => ⟨by show 1 ≤ sizeLine; decide, fun R nR => ?_⟩⟩
            have lvs := pl2.len
            have s3 : Same H2 (upd H2 T (.tup [.int 0, .int ((n : Int) - 1)])) := same_upd nT
            have s4 : Same H2 (upd (upd H2 T (.tup [.int 0, .int ((n : Int) - 1)])) R (.lst [.ref T])) := s3.trans (same_upd nR)
            have hT : (upd (upd H2 T (.tup [.int 0, .int ((n : Int) - 1)])) R (.lst [.ref T])) T = some (.tup [nV 0, nV (n - 1)]) := by
              have : T ≠ R := fun e => by rw [← e, upd_same] at nR; cases nR
              rw [upd_ne this, upd_same]
              have e : V.int ((n : Int) - 1) = nV (n - 1) := congrArg V.int (by omega)
              rw [e]; rfl
            refine ⟨L2, R, vs, [.ref T], rfl, rfl, s4 _ _ pl1, upd_same, size_le (by show vs.length + 1 ≤ 100000; omega), fun pp np => ?_⟩
            refine ⟨_, rfl, _, rfl, _, _, rfl, rfl, _, _, rfl, ?_⟩
            have e : ps.length + 1 = n := by omega
            refine ⟨pp, _, ps ++ [(0, n - 1)], none, rfl, ((t1.1.trans sm2).trans s4).trans (same_upd np), ((t1.1.trans sm2).trans s4).free np, ⟨_, upd_same, Prs.same (same_upd np) (Prs.app (pl2.same s4) ⟨⟨T, rfl, hT⟩, True.intro⟩)⟩, ?_, ?_, ?_, (e ▸ tr.edg : Edg n ps).app ?_, (e ▸ tr.spans : Spans n ps).app⟩
            · show 0 ≤ if genus - 1 < more then genus - 1 else more
              split <;> omega
            · rw [List.length_append]
              show ((ps.length + 1 : Nat) : Int) + (if genus - 1 < more then genus - 1 else more) + 1 ≤ _
              split <;> omega
            · rw [List.length_append]; show 1 ≤ ps.length + 1; omega
            · intro e he
              rw [List.mem_singleton.mp he]
              show 0 ≠ n - 1 ∧ 0 < n ∧ n - 1 < n
              omega
        -- elif kind == 5 and ..
        refine st_ite (ans_and2 (fun Q q => ⟨_, rfl, rfl, _, rfl, q⟩) (fun Q q => ⟨_, rfl, _, _, rfl, rfl, _, rfl, _, _, rfl, rfl, _, _, rfl, rfl, .inl ⟨by omega, by omega⟩, _, _, rfl, rfl, ⟨by decide, by decide⟩, .inl ⟨_, rfl, _, rfl, _, _, rfl, rfl, _, rfl, q⟩⟩)) (fun hc => ?_) (fun _ => ?_)
        · have hg : ((n : Int) - 1) * ((n : Int) - 2) / 2 ≤ genus := of_decide_eq_true (Bool.and_eq_true_iff.mp hc).2
          refine ⟨_, rfl, n, rfl, by omega, fun H2 pp sm2 np pl => ⟨_, _, rfl, ?_⟩⟩
          refine ⟨pp, 0, allPairs n, none, rfl, t1.1.trans sm2, t1.1.free np, pl, Int.le_refl 0, ?_, ?_, allPairs_edg, allPairs_spans⟩
          · have := allPairs_len2 n
            have e1 : ((n : Int) - 1) * ((n : Int) - 2) = (n : Int) * ((n : Int) - 1) - 2 * ((n : Int) - 1) := by
              rw [Int.sub_mul, Int.mul_sub, Int.mul_sub, Int.mul_sub]; omega
            have e2 : (n : Int) * ((n : Int) - 1) = 2 * ((allPairs n).length : Int) := by
              have : ((n * (n - 1) : Nat) : Int) = ((2 * (allPairs n).length : Nat) : Int) := by rw [this]
              rw [Int.natCast_mul, Int.natCast_mul] at this
              have e3 : ((n - 1 : Nat) : Int) = (n : Int) - 1 := by omega
              rw [e3] at this
              exact this
            rw [e1, e2] at hg
            omega
          · have := allPairs_len2 n
            have h2 : 2 * 1 ≤ n * (n - 1) := Nat.mul_le_mul n3 (by omega)
            omega
        -- elif kind == 6 and n > 3 and ..
        have eh : ((n : Int) / 2) = ((n / 2 : Nat) : Int) := rfl
        have ed : ((n : Int) - ((n / 2 : Nat) : Int)) = ((n - n / 2 : Nat) : Int) := by omega
        refine st_ite (ans_and2 (fun Q q => ⟨_, rfl, rfl, _, rfl, q⟩) (ans_and2 (fun Q q => ⟨_, rfl, _, _, rfl, rfl, _, rfl, q⟩)
          (fun Q q => ⟨_, rfl, _, _, rfl, rfl, ⟨by decide, by decide⟩, .inl ⟨_, rfl, _, rfl, _, rfl, _, _, rfl, rfl, ⟨by decide, by decide⟩, .inl ⟨_, rfl, _, _, rfl, rfl, _, _, rfl, rfl, .inl ⟨by omega, by omega⟩, _, rfl, _, _, rfl, rfl, _, _, rfl, rfl, _, rfl, _, _, rfl, rfl, _, rfl, q⟩⟩⟩))) (fun hc => ?_) (fun _ => ?_)
        · obtain ⟨_, hc⟩ := Bool.and_eq_true_iff.mp hc
          obtain ⟨hn3, hc⟩ := Bool.and_eq_true_iff.mp hc
          have hn3 : (3 : Int) < n := of_decide_eq_true hn3
          have hg : ((n : Int) / 2) * ((n : Int) - (n : Int) / 2) - n + 1 ≤ genus := of_decide_eq_true hc
          rw [eh, ed, ← Int.natCast_mul] at hg
          have hm : ((n / 2 * (n - n / 2) : Nat) : Int) ≤ 4096 := by
            have : n / 2 * (n - n / 2) ≤ 64 * 64 := Nat.mul_le_mul (by omega) (by omega)
            omega
          refine ⟨_, rfl, _, _, rfl, rfl, ⟨by decide, by decide⟩, .inl ⟨_, rfl, ?_⟩⟩
          have em : ((n / 2 : Nat) : Int) * ((n : Int) - ((n / 2 : Nat) : Int)) = ((n / 2 * (n - n / 2) : Nat) : Int) := by rw [ed, Int.natCast_mul]
          refine ⟨_, rfl, _, rfl, _, rfl, _, _, rfl, rfl, _, _, rfl, rfl, .inl ⟨by omega, by omega⟩, ((n / 2 : Nat) : Int) * ((n : Int) - ((n / 2 : Nat) : Int)), rfl, by omega, by omega, fun L2 nL2 => ?_⟩
          refine lc_range (lo := 0) (n := (((n / 2 : Nat) : Int) * ((n : Int) - ((n / 2 : Nat) : Int))).toNat) (fun i H2 => Same H1 H2 ∧ PLst H2 L2 ((bip n (n / 2)).take i)) ⟨same_upd nL2, [], upd_same, by rw [List.take_zero]; exact True.intro⟩ ?_ ?_
          · rintro i H2 hi ⟨sm2, pl2⟩
            have hi : i < n / 2 * (n - n / 2) := by omega
            have ei : V.int (0 + (i : Int)) = nV i := by rw [Int.zero_add]
            rw [ei]
            refine ⟨rfl, yes_ ?_⟩
            refine ⟨_, rfl, _, rfl, _, rfl, _, _, rfl, rfl, _, _, rfl, rfl, ⟨by omega, by omega⟩, .inl ⟨_, rfl, ?_⟩⟩
            refine ⟨_, rfl, _, rfl, .inl ⟨_, rfl, _, rfl, _, rfl, _, _, rfl, rfl, _, _, rfl, rfl, ?_, _, _, rfl, rfl, by show 2 ≤ sizeLine; decide, fun T nT => ?_⟩⟩
            · show (0 : Int) < (n : Int) - ((n / 2 : Nat) : Int)
              omega
            have v1 : V.int ((i : Int) / ((n : Int) - ((n / 2 : Nat) : Int))) = nV (i / (n - n / 2)) := by rw [ed]; rfl
            have v2 : V.int (((n / 2 : Nat) : Int) + (i : Int) % ((n : Int) - ((n / 2 : Nat) : Int))) = nV (n / 2 + i % (n - n / 2)) := by rw [ed]; rfl
            obtain ⟨vs, h1, h2, h3⟩ := pl2.pushV (Same.refl H2) nT v1 v2
            refine ⟨vs, h1, size_lt (by rw [h2, List.length_take]; omega), same_mut (sm2.trans (same_upd nT)) nL2, ?_⟩
            rw [List.take_add_one, bip_get hi]
            exact h3
          · rintro H2 ⟨sm2, pl2⟩
            rw [em, Int.toNat_natCast, List.take_of_length_le (by rw [bip_len]; omega)] at pl2
            refine ⟨_, _, rfl, ?_⟩
            refine ⟨L2, 0, bip n (n / 2), _, rfl, t1.1.trans sm2, t1.1.free nL2, pl2, Int.le_refl 0, ?_, ?_, bip_edg (by omega), bip_spans (by omega) (by omega)⟩
            · rw [bip_len]; omega
            · rw [bip_len]
              have : 1 * 1 ≤ n / 2 * (n - n / 2) := Nat.mul_le_mul (by omega) (by omega)
              omega
        -- elif kind == 7
        refine ⟨_, rfl, rfl, _, rfl, ifD (fun _ => ?_) (fun _ => ?_)⟩
        · refine ⟨_, rfl, 1, _, rfl, ⟨by omega, by omega, by omega, by omega⟩, fun L2 nL2 => ?_⟩
          refine lc_range (lo := 1) (n := ((n : Int) - 1).toNat) (TreeAt H1 L2) (treeAt_nil nL2) ?_ ?_
          · rintro i H2 hi t
            rw [ek i]
            refine ⟨rfl, yes_ ?_⟩
            refine ⟨_, rfl, _, rfl, _, _, rfl, rfl, by show 2 ≤ sizeLine; decide, fun R nR => ?_⟩
            have sR := same_upd (o := .lst [.int 0, .int (((i + 1 : Nat) : Int) - 1)]) nR
            refine ⟨a, R, _, rfl, (hp1.same t.1).same sR, SqL.of upd_same, by show 0 < 2; decide, by show 2 < 1000000000; decide, fun j v hj => ?_⟩
            refine ⟨_, rfl, by show 2 ≤ sizeLine; decide, fun T nT => ?_⟩
            match j, hj with
            | 0, hj => exact tree_push nL2 (t.same sR) nT (Option.some.inj hj).symm (Nat.zero_le _) (by omega)
            | 1, hj => exact tree_push nL2 (t.same sR) nT ((Option.some.inj hj).symm.trans (congrArg V.int (by omega : ((i + 1 : Nat) : Int) - 1 = (i : Int)))) (Nat.le_refl _) (by omega)
            | j + 2, hj => exact nomatch hj
          · intro H2 t
            rw [eN] at t
            exact midG_tree t t1.1 nL2 n3 x0 (by omega)
        · exact midG_tree t1 (Same.refl _) nL n3 x0 (by omega)
      · rintro σ2 H2 ⟨pp, mr, ps, yh, rfl, sm2, npp, pl, mr0, hlen, l1, ed, sp⟩
        obtain ⟨vs, hv1, hv2⟩ := pl.size
        refine ⟨_, rfl, _, rfl, _, rfl, _, ps.length, rfl, .inl ⟨_, SqL.of hv1, hv2.symm⟩, ?_⟩
        refine ⟨a, _, rfl, hp.same sm2, by omega, by omega, fun r r0 r1 => ?_⟩
        have hr2 : r.toNat < ps.length := by omega
        obtain ⟨vs', hv3, hv4⟩ := pl
        obtain ⟨t, et, ht⟩ := Prs.get hv4 hr2
        refine ⟨_, _, r, _, rfl, rfl, SqL.of hv3, atI_int r0 et, ?_⟩
        obtain ⟨ne, ht1, ht2⟩ := ed _ (List.getElem_mem hr2)
        generalize ps[r.toNat] = e0 at ht ne ht1 ht2
        -- for turn in range(more)
        refine ⟨fun σ3 H3 => ∃ (y9 y10 y11 : Option V) (qs : List Pr), σ3 = [some (.ref a), some (.int most), some (.int genus), some (nV n), some (.int kind), some (.int mr), some (.ref pp), yh, some (.ref t), y9, y10, y11, none, none, none, none, none] ∧
          Same H' H3 ∧ PLst H3 pp qs ∧ (qs.length : Int) + 1 ≤ n + genus ∧ 1 ≤ qs.length ∧ Edg n qs ∧ Spans n qs, ?_, ?_⟩
        · refine ⟨_, rfl, mr, rfl, by omega, by omega, for_range (lo := 0) (n := mr.toNat) (fun i σ3 H3 => ∃ (y9 y10 y11 : Option V) (qs : List Pr), σ3 = [some (.ref a), some (.int most), some (.int genus), some (nV n), some (.int kind), some (.int mr), some (.ref pp), yh, some (.ref t), y9, y10, y11, none, none, none, none, none] ∧
            Same H' H3 ∧ PLst H3 pp qs ∧ qs.length = ps.length + i ∧ Edg n qs ∧ Spans n qs ∧ H3 t = some (.tup [nV e0.1, nV e0.2])) ?_ ?_ ?_⟩
          · exact ⟨none, none, none, ps, rfl, sm2, ⟨vs', hv3, hv4⟩, rfl, ed, sp, ht⟩
          · rintro i σ3 H3 hi ⟨y9, y10, y11, qs, rfl, sm3, pl3, lq, edq, spq, ht3⟩
            have hp3 : PoolAt H3 a := hp.same sm3
            refine ⟨_, rfl, _, rfl, a, _, rfl, hp3, by omega, by omega, fun x x0' x1' => ?_⟩
            obtain ⟨x, rfl⟩ : ∃ x' : Nat, x = x' := ⟨x.toNat, by omega⟩
            refine ⟨_, rfl, _, _, rfl, rfl, _, rfl, _, rfl, _, _, rfl, rfl, a, _, rfl, hp3, by omega, by omega, fun y y0' y1' => ?_⟩
            obtain ⟨y, rfl⟩ : ∃ y' : Nat, y = y' := ⟨y.toNat, by omega⟩
            refine ⟨_, _, rfl, rfl, .inl ⟨_, rfl, _, rfl, _, _, rfl, rfl, by show (0 : Int) < n; omega, ?_⟩⟩
            obtain ⟨mo1, mo2⟩ := mod_other (n := n) (x := x) (y := y) (by omega) (by omega)
            obtain ⟨ws, hw1, hw2⟩ := pl3.size
            refine ⟨_, rfl, .inl ⟨rfl, _, SqL.of hw1⟩, _, rfl, a, _, rfl, hp3, by decide, by decide, fun z z0 z1 => ⟨rfl, _, rfl, ifD (fun _ => ?_) (fun _ => ?_)⟩⟩
            · obtain ⟨ws', k1', k2', k3'⟩ := pl3.push' ht3
              refine ⟨_, rfl, pp, ws', _, rfl, rfl, k1', size_lt (by omega), ?_⟩
              refine ⟨_, _, _, qs ++ [(e0.1, e0.2)], rfl, same_mut sm3 npp, k3', by rw [List.length_append, lq]; rfl, edq.app ?_, spq.app, ?_⟩
              · intro e he
                rw [List.mem_singleton.mp he]
                exact ⟨ne, ht1, ht2⟩
              · rw [upd_ne (ne_of ht3 k1' (fun q => by cases q))]; exact ht3
            · refine ⟨_, rfl, _, rfl, by show 2 ≤ sizeLine; decide, fun T nT => ?_⟩
              have vo : V.int (((x : Int) + 1 + (y : Int)) % (n : Int)) = nV ((x + 1 + y) % n) := rfl
              obtain ⟨ws', k1', k2', k3'⟩ := pl3.pushV (Same.refl H3) nT (rfl : V.int (x : Int) = nV x) vo
              refine ⟨pp, ws', _, rfl, rfl, k1', size_lt (by omega), ?_⟩
              refine ⟨_, _, _, qs ++ [(x, (x + 1 + y) % n)], rfl, same_mut (sm3.trans (same_upd nT)) npp, k3', by rw [List.length_append, lq]; rfl, edq.app ?_, spq.app, ?_⟩
              · intro e he
                rw [List.mem_singleton.mp he]
                exact ⟨fun q => mo1 q.symm, by omega, mo2⟩
              · rw [upd_ne (ne_of ((same_upd nT) _ _ ht3) k1' (fun q => by cases q))]
                exact (same_upd nT) _ _ ht3
          · rintro σ3 H3 ⟨y9, y10, y11, qs, rfl, sm3, pl3, lq, edq, spq, ht3⟩
            exact ⟨_, _, _, qs, rfl, sm3, pl3, by omega, by omega, edq, spq⟩
        · rintro σ3 H3 ⟨y9, y10, y11, qs, rfl, sm3, pl3, lq, lq1, edq, spq⟩
          -- order, edges
          refine ⟨_, rfl, _, rfl, a, _, rfl, hp.same sm3, by omega, by omega, fun H4 op o sm4 ho hperm => ?_⟩
          rw [Int.toNat_natCast] at hperm
          have lo : o.length = n := by rw [hperm.length_eq, List.length_range]
          obtain ⟨ws, hw1, hw2⟩ := pl3.same sm4
          have lw := hw2.len
          refine ⟨_, rfl, pp, rfl, ⟨_, SqL.of hw1⟩, fun E1 nE1 => ?_⟩
          refine lc_list (K := K) (a := pp) (xs := ws) (fun i H5 => Same H4 H5 ∧ PLst H5 E1 ((qs.map (relabel o)).take i)) ⟨same_upd nE1, [], upd_same, by rw [List.take_zero]; exact True.intro⟩ (fun i H5 _ h => SqL.of (h.1 _ _ hw1)) ?_ ?_
          · rintro i x H5 hx ⟨sm5, pl5⟩
            have hi : i < qs.length := by rw [← lw]; exact (List.getElem?_eq_some_iff.mp hx).1
            obtain ⟨T, eT, hT⟩ := Prs.get hw2 hi
            rw [eT] at hx
            obtain rfl := Option.some.inj hx
            have hT5 := sm5 _ _ hT
            obtain ⟨_, u1, u2⟩ := edq _ (List.getElem_mem hi)
            have g1 : (o.map nV)[qs[i].1]? = some (nV (o.getD qs[i].1 0)) := by
              rw [List.getD_eq_getElem?_getD, List.getElem?_map, List.getElem?_eq_getElem (by omega)]; rfl
            have g2 : (o.map nV)[qs[i].2]? = some (nV (o.getD qs[i].2 0)) := by
              rw [List.getD_eq_getElem?_getD, List.getElem?_map, List.getElem?_eq_getElem (by omega)]; rfl
            have ho5 := SqT.of (K := K) (sm5 _ _ ho)
            refine ⟨T, _, rfl, SqT.of hT5, rfl, _, _, rfl, _, _, rfl, rfl, rfl, yes_ ?_⟩
            refine ⟨_, rfl, _, rfl, _, _, _, _, rfl, rfl, ho5, atI_nat g1, _, rfl, _, rfl, _, _, _, _, rfl, rfl, ho5, atI_nat g2, _, _, rfl, ?_⟩
            refine ⟨_, rfl, _, rfl, _, _, _, _, rfl, rfl, ho5, atI_nat g1, _, rfl, _, rfl, _, _, _, _, rfl, rfl, ho5, atI_nat g2, _, _, rfl, by show 2 ≤ sizeLine; decide, fun T2 nT2 => ?_⟩
            have m1' : V.int (if ((o.getD qs[i].2 0 : Nat) : Int) < ((o.getD qs[i].1 0 : Nat) : Int) then ((o.getD qs[i].2 0 : Nat) : Int) else ((o.getD qs[i].1 0 : Nat) : Int)) = nV (min (o.getD qs[i].1 0) (o.getD qs[i].2 0)) := congrArg V.int (by split <;> omega)
            have m2' : V.int (if ((o.getD qs[i].2 0 : Nat) : Int) > ((o.getD qs[i].1 0 : Nat) : Int) then ((o.getD qs[i].2 0 : Nat) : Int) else ((o.getD qs[i].1 0 : Nat) : Int)) = nV (max (o.getD qs[i].1 0) (o.getD qs[i].2 0)) := congrArg V.int (by split <;> omega)
            obtain ⟨zs, k1', k2', k3'⟩ := pl5.pushV (Same.refl H5) nT2 m1' m2'
            refine ⟨zs, k1', size_lt (by rw [k2', List.length_take]; omega), same_mut (sm5.trans (same_upd nT2)) nE1, ?_⟩
            rw [List.take_add_one, List.getElem?_map, List.getElem?_eq_getElem hi]
            exact k3'
          · rintro H5 ⟨sm5, pl5⟩
            rw [lw, List.take_of_length_le (by rw [List.length_map]; exact Nat.le_refl _)] at pl5
            have gd := relabel_good (by omega) hperm edq spq
            obtain ⟨zs, hz1, hz2⟩ := pl5.size
            rw [List.length_map] at hz2
            have hp5 : PoolAt H5 a := hp.same ((sm3.trans sm4).trans sm5)
            refine ⟨_, rfl, _, rfl, _, rfl, _, qs.length, rfl, .inl ⟨_, SqL.of hz1, hz2.symm⟩, a, _, rfl, hp5, by omega, by omega, fun H6 op2 o2 sm6 ho2 hperm2 => ?_⟩
            rw [Int.toNat_natCast] at hperm2
            have lo2 : o2.length = qs.length := by rw [hperm2.length_eq, List.length_range]
            refine ⟨op2, rfl, ⟨_, SqT.of ho2⟩, fun E2 nE2 => ?_⟩
            obtain ⟨zs6, hz6, hz7⟩ := pl5.same sm6
            refine lc_tup (K := K) (a := op2) (xs := o2.map nV) (fun i H7 => Same H6 H7 ∧ PLst H7 E2 ((pick (qs.map (relabel o)) o2).take i)) ⟨same_upd nE2, [], upd_same, by rw [List.take_zero]; exact True.intro⟩ (fun i H7 _ h => SqT.of (h.1 _ _ ho2)) ?_ ?_
            · rintro i x H7 hx ⟨sm7, pl7⟩
              have hi : i < o2.length := by
                have := (List.getElem?_eq_some_iff.mp hx).1
                rwa [List.length_map] at this
              rw [getMap hi] at hx
              obtain rfl := Option.some.inj hx
              have hk : o2[i] < (qs.map (relabel o)).length := by
                rw [List.length_map]
                exact List.mem_range.mp (hperm2.mem_iff.mp (List.getElem_mem hi))
              obtain ⟨T, eT, hT⟩ := Prs.get hz7 hk
              refine ⟨rfl, yes_ ?_⟩
              refine ⟨_, rfl, _, rfl, _, _, _, _, rfl, rfl, SqL.of (sm7 _ _ hz6), atI_nat eT, ?_⟩
              obtain ⟨ws', k1', k2', k3'⟩ := pl7.push' (sm7 _ _ hT)
              refine ⟨ws', k1', size_lt (by rw [k2', List.length_take]; omega), same_mut sm7 nE2, ?_⟩
              unfold pick
              rw [List.take_add_one, List.getElem?_map, List.getElem?_eq_getElem hi]
              have e : (qs.map (relabel o)).getD o2[i] (0, 0) = (qs.map (relabel o))[o2[i]] := by
                rw [List.getD_eq_getElem?_getD, List.getElem?_eq_getElem hk]; rfl
              show PLst _ E2 (_ ++ [(qs.map (relabel o)).getD o2[i] (0, 0)])
              rw [e]
              exact k3'
            · rintro H7 ⟨sm7, pl7⟩
              have lp : (pick (qs.map (relabel o)) o2).length = qs.length := by unfold pick; rw [List.length_map, lo2]
              rw [List.length_map, List.take_of_length_le (by rw [lp, lo2]; exact Nat.le_refl _)] at pl7
              have pm : (pick (qs.map (relabel o)) o2).Perm (qs.map (relabel o)) := pick_perm (by rw [List.length_map]; exact hperm2)
              refine ⟨by show 2 ≤ sizeLine; decide, fun t nt => ?_⟩
              refine q _ t E2 n _ (((((sm3.trans sm4).trans sm5).trans sm6).trans sm7).trans (same_upd nt)) upd_same ((((sm3.trans sm4).trans sm5).trans sm6).free nE2) (pl7.same (same_upd nt)) n1 n2 (gd.perm pm) ?_
              rw [lp]; exact lq
end
end G3

set_option Elab.async false
set_option linter.all false
set_option maxRecDepth 100000
set_option maxHeartbeats 4000000
/-! An own error whose __init__ says super().__init__(number) and self.number = number; made, raised, caught. -/
namespace SupX
open PySem PySem.W PySem.Calls PyProof.Rows PySem.HandSPX
def iA (p1 p2 : Pos) : Arguments :=
  { posonlyargs := [], args := [⟨"self", none, p1⟩, ⟨"number", none, p2⟩], vararg := none, kwonlyargs := [], kw_defaults := [], kwarg := none, defaults := [] }
def iB (q1 q2 q3 q4 q5 q6 q7 q8 q9 q10 : Pos) : List Stmt :=
  [.Expr (.Call (.Attribute (.Call (.Name "super" q1) [] [] q2) "__init__" q3) [.Name "number" q4] [] q5) q6, .Assign [.Attribute (.Name "self" q7) "number" q8] (.Name "number" q9) q10]
def iS : Scope :=
  { kind := .function, names := [(Str.ofString "self", .local), (Str.ofString "number", .local), (Str.ofString "__class__", .free), (Str.ofString "super", .globalImplicit)], isGenerator := false, isCoroutine := false, more := [] }
/-- what the written part says of such a class at C, its name x, its __init__ at fI -/
structure SupTxt (prog : Program) (K : Frag) (mg : Str → Option Value) (x : Str) (C fI : Addr) : Prop where
  gC : mg x = some (.ref C)
  cls : ∃ nm q N bs bm sn sub ab col dd k0 k1 k2 k3 k5, K.lookup C = some (excClassObj nm q C N bs bm true sn sub ab col dd k0 k1 k2 k3 k5 "ValueError.__new__") ∧ refsVE bm = true
  sa : findIn K (.ref C) "__setattr__" = some (some (.builtin "object.__setattr__"))
  ga : findIn K (.ref C) "__getattribute__" = some (some (.builtin "BaseException.__getattribute__"))
  gg : findIn K (.ref C) "__getattr__" = some none
  noN : findIn K (.ref C) "number" = some none
  iC : findIn K (.ref C) "__init__" = some (some (.ref fI))
  tC : typeIn K (.ref fI) = some (.type "function")
  kC : keepIn K (.ref C) = true
  exC : subIn K (.ref C) (.type "BaseException") = some true
  vE : subIn K (.ref C) (.type "ValueError") = some true
  tyC : typeIn K (.ref C) = some (.type "type")
  hdC : hasDictIn K C = true
  sup : ks_superIn K C C "__init__" = some (some (.builtin "ValueError.__init__"))
  self_ : mroIn K C (.ref C) = some true
  stat : nsIn K cStatics "thirdparty.any" = some none
  free : mg "super" = none
  htop : (prog.main.scope.names.lookup (Str.ofString "super")).isSome = false
  fn : ∃ (oc : Value) (od : Option Addr) (doc pm : Value) (an : Option Addr) (ct : Value) (osl : Array (Option Value)) (p1 p2 q1 q2 q3 q4 q5 q6 q7 q8 q9 q10 : Pos) (qual : Str) (cda cc : Addr),
    K.lookup fI = some ⟨oc, od, .func (ksFn "__init__" qual (iA p1 p2) (iB q1 q2 q3 q4 q5 q6 q7 q8 q9 q10) iS .none .none doc pm an (.ref cda) ct cc), osl⟩ ∧ codeIn K (.ref cda) qual = true ∧ (q3.endLine == q5.line) = true ∧
    (∃ (cl : Value) (cld : Option Addr) (csl : Array (Option Value)), K.lookup cc = some ⟨cl, cld, .cell (some (.ref C)), csl⟩) ∧
    ∃ (ccl : Value) (cdd : Option Addr) (ccs : Array (Option Value)) (vs : Array Value) (file : Str) (tf : Tok), K.lookup cda = some ⟨ccl, cdd, .fields vs, ccs⟩ ∧ vs[2]? = some (.str file tf) ∧ ((prog.main.file : Str) == file) = true
/-- what __init__ leaves of a fresh exception at e -/
structure SupEnd (h h' : Heap) (e C dx t1 : Addr) (v : Value) : Prop where
  keep : ∀ b o, b ≠ e → h.get? b = some o → h'.get? b = some o
  obj : h'.get? e = some { cls := .ref C, dict := some dx, data := .fields #[.ref t1, .none, .none, .none, .bool false, .none] }
  dbig : h.objs.size ≤ dx
  dne : dx ≠ e
  ns : h'.Ns1 dx (fun y => if y = "number" then some v else none)
theorem in_but {K : Frag} {h h' : Heap} {x : Addr} (X : K.In h) (hx : K.lookup x = none) (k : ∀ b o, b ≠ x → h.get? b = some o → h'.get? b = some o) : K.In h' := fun a o q =>
  k a o (fun z => by rw [z, hx] at q; cases q) (X a o q)
section
variable {prog : Program} {w : World} {A : Around} {E : Value → Shared → Prop} {R : Result → Shared → Prop} {s : Shared} {K : Frag} {mg mb : Str → Option Value} {x : Str} {C fI : Addr}
theorem sup_init (T : SupTxt prog K mg x C fI) {e t0 : Addr} {v : Value} (X : K.In s.heap) (hlim : s.heap.NoLimit) (G : s.heap.Ns mainGlobals mg) (Bn : s.heap.Ns builtinsNs mb) (hb : mb "super" = some (.type "super"))
    (hx : s.heap.get? e = some (excO C t0)) (hnx : K.lookup e = none) (hroom : A.depth < recursionLimit)
    (hq : ∀ h' tk dx t1, SupEnd s.heap h' e C dx t1 v → R (.ok (.ret .none)) { s with heap := h', toks := tk }) :
    codeAny (model prog w) A (.call (.ref fI) ⟨[.ref e, v], []⟩) R s := by
  obtain ⟨hp, g, d, t, os⟩ := s
  obtain ⟨oc, od, doc, pm, an, ct, osl, p1, p2, q1, q2, q3, q4, q5, q6, q7, q8, q9, q10, qual, cda, cc, ho, hcd, hline, ⟨cl, cld, csl, hcc⟩, ccl, cdd, ccs, vs, file, tf, hcode, hvs, hfile⟩ := T.fn
  obtain ⟨nm, q, N, bs, bm, sn, sub, ab, col, dd, k0, k1, k2, k3, k5, hC, hbm⟩ := T.cls
  have hcl : clsIn K C = some { name := nm, bases := bs, mro := .ref C :: bm, ns := N, qualname := q, hasDict := true, slotNames := sn, subclasses := sub, abstract := ab, collection := col, hasDel := false } := by unfold clsIn; rw [hC] <;> rfl
  refine ks_codeAny_call_defAt (fd := ksFn "__init__" qual (iA p1 p2) (iB q1 q2 q3 q4 q5 q6 q7 q8 q9 q10) iS .none .none doc pm an (.ref cda) ct cc) (body := iB q1 q2 q3 q4 q5 q6 q7 q8 q9 q10)
    (binds := [("self", .ref e), ("number", v)]) hroom (X _ _ ho) rfl hlim (codeRec_of X hcd) rfl (BindsTo.of_eq (by first | rfl | with_unfolding_all rfl)) (show ∀ y ∈ iS.names, y.2 ≠ .cell by decide) (locs rfl) (fun h₀ hns hk => ?_)
  have X0 : K.In h₀ := X.keeps hk
  have he0 : h₀.get? e = some (excO C t0) := hk _ _ hx
  have I0 : InstAt h₀ e (excO C t0) C none := ⟨he0, rfl, rfl, trivial⟩
  have heL : e ≠ hp.objs.size := Nat.ne_of_lt (Heap.lt_size hx)
  refine ks_wpAt_execs_cons (env := ksEnv qual iS hp.objs.size fI (.ref cda) cc) (ks_wpAt_Expr_any ?_)
  have hcall : eval (.Call (.Attribute (.Call (.Name "super" q1) [] [] q2) "__init__" q3) [.Name "number" q4] [] q5) (ksEnv qual iS hp.objs.size fI (.ref cda) cc) = (do
      let ov ← attributeBase (.Call (.Name "super" q1) [] [] q2) "__init__" (ksEnv qual iS hp.objs.size fI (.ref cda) cc) (eval (.Call (.Name "super" q1) [] [] q2) (ksEnv qual iS hp.objs.size fI (.ref cda) cc))
      standAt q3.atName
      let (f, first) ← holding [ov] (getMethod ov "__init__" (L2.plainOf (.Call (.Name "super" q1) [] [] q2) (ksEnv qual iS hp.objs.size fI (.ref cda) cc)))
      callWith q5 f first (backTo q5 (starEach [.Name "number" q4] (ksEnv qual iS hp.objs.size fI (.ref cda) cc))) []) := by
    rw [arm_eval_Call]
    congr 1
    funext ov
    congr 1
    funext _
    exact L2.mcall_line rfl hline
  refine ks_wpAt_MethodCall ?_ hcall
  refine ks_wpAt_super_base (env := ksEnv qual iS hp.objs.size fI (.ref cda) cc) rfl rfl rfl rfl (X0 _ _ ho) rfl rfl rfl (X0 _ _ hcode) rfl hvs hfile T.htop ?_
  refine ks_loadName_global rfl rfl (loadGlobal_builtin (env := ksEnv qual iS hp.objs.size fI (.ref cda) cc) (G.keeps hk) T.free (Bn.keeps hk) hb ⟨rfl, ?_⟩)
  refine wpAny_loadName_free rfl rfl rfl ⟨_, X0 _ _ hcc, rfl⟩ ?_
  refine wpAny_loadName_local rfl rfl hns rfl ?_
  refine ks_wpAny_isType_cls (X0 _ _ hC) rfl ⟨rfl, ?_⟩
  refine ks_wpAny_call_super (X0 _ _ hC) rfl he0 rfl (fun c z => nomatch z) (looks_mroIn X0 T.self_) (fun h1 hso k1 => ?_)
  have X1 : K.In h1 := X0.keeps k1
  have I1 : InstAt h1 e (excO C t0) C none := ⟨k1 _ _ he0, rfl, rfl, trivial⟩
  have hal : alongIn K "__init__" (((Value.ref C :: bm).dropWhile (· != .ref C)).drop 1) = some (some (.builtin "ValueError.__init__")) := by
    have z := T.sup
    unfold ks_superIn at z
    rw [hcl] at z
    exact z
  refine kxs_getMethod kxs_ValueError hso (looks_opaque X1 T.stat) (l₀ := .ref C :: bm) (fun A Q E s k q => wpAny_bind ((looks_clsIn X1 hcl) A _ E s k (wpAny_pure q))) rfl X1 hal (I1.type.andThen (looks_subIn X1 T.vE)) (ks_ne X1 I1 hcl) rfl ?_
  have hmw : (h1.push (kxs_mw "ValueError.__init__" e)).get? h1.objs.size = some (kxs_mw "ValueError.__init__" e) := Heap.get?_push_size _ rfl
  have k2 : ∀ b o, h1.get? b = some o → (h1.push (kxs_mw "ValueError.__init__" e)).get? b = some o := fun b o z => Heap.get?_push_of_some _ z
  have k02 : ∀ b o, hp.get? b = some o → (h1.push (kxs_mw "ValueError.__init__" e)).get? b = some o := fun b o z => k2 b o (k1 b o (hk b o z))
  have hns2 : (h1.push (kxs_mw "ValueError.__init__" e)).Ns hp.objs.size (fun y => ([("self", .ref e), ("number", v)] : List (Str × Value)).reverse.lookup y) := by
    obtain ⟨oL, es, ep, hL, rr⟩ := hns
    exact ⟨oL, es, ep, k2 _ _ (k1 _ _ hL), rr⟩
  have hargs : starEach [.Name "number" q4] (ksEnv qual iS hp.objs.size fI (.ref cda) cc) = (false, eval (.Name "number" q4) (ksEnv qual iS hp.objs.size fI (.ref cda) cc)) :: starEach [] (ksEnv qual iS hp.objs.size fI (.ref cda) cc) := rfl
  rw [hargs]
  refine kxs_callWith (i := "ValueError.__init__") (x := e) (u := h1.objs.size) rfl (evalArgs_plain (spliced_cons (wpAny_Name (wpAny_loadName_local rfl rfl hns2 rfl (spliced_nil ⟨hmw, ?_⟩)) (by decide))))
  have he2 : (h1.push (kxs_mw "ValueError.__init__" e)).get? e = some (excO C t0) := k2 _ _ (k1 _ _ he0)
  have hC2 := k2 _ _ (X1 _ _ hC)
  have FB := F.excBase_ValueError
  have b1 : (Value.type "method-wrapper" == Value.type "method" || Value.type "method-wrapper" == Value.type "builtin_function_or_method" || Value.type "method-wrapper" == Value.type "method-wrapper") = true := by decide
  refine wpAny_call (codeAny_of_tree (show wpAny (model prog w) _ (callAny (.ref h1.objs.size) ⟨[v], []⟩) _ _ _ from ?_))
  unfold callAny
  refine wpAny_bind (wpAny_load hmw ?_)
  simp only [kxs_mw, b1, if_true]
  refine KFB.if_so (by decide) (wpAny_bind (check_bound_init FB.toExcCallFacts hC2 he2 rfl (wpAny_bind (wpAny_pure (wpAny_pure ⟨plainId_quiet FB.init.plain _, codeAny_builtin FB.initEntry ?_⟩)))))
  refine exc_init_tree (cls := .ref C) (t0 := t0) (dv := none) (c2 := .none) (c3 := .none) (b4 := .bool false) he2 (by show 1 ≤ sizeLine; decide) (fun h3 k3 he3 ht3 => ?_)
  have X3 : K.In h3 := in_but (X.keeps k02) hnx k3
  have hns3 : h3.Ns hp.objs.size (fun y => ([("self", .ref e), ("number", v)] : List (Str × Value)).reverse.lookup y) := by
    obtain ⟨oL, es, ep, hL, rr⟩ := hns2
    exact ⟨oL, es, ep, k3 _ _ (Ne.symm heL) hL, rr⟩
  have hlt : hp.objs.size < h3.objs.size := hns3.lt
  refine wpAt_of_wpAny (wpAny_execs_cons (plainObj_wpAny_Assign_Attribute ?_))
  refine wpAny_Name (wpAny_loadName_local rfl rfl hns3 rfl (wpAny_Name (wpAny_loadName_local rfl rfl hns3 rfl ?_) (by decide))) (by decide)
  refine set_plain X3 (ox := excO C (h1.push (kxs_mw "ValueError.__init__" e)).objs.size) (od := none) ⟨he3, rfl, rfl, trivial⟩ T.sa ?_
  refine exc_osa X3 he3 hcl (show refsVE (.ref C :: bm) = true from hbm) rfl T.noN (fun h4 tk4 dx k4 dn dne he4 hn4 => ?_)
  refine wpAny_execs_nil (hq h4 tk4 dx _ ⟨fun b o nb z => k4 b o nb (k3 b o nb (k02 b o z)), he4, Nat.le_trans (Nat.le_of_lt hlt) dn, dne, hn4⟩)
/-- such an error made -/
structure SupMade (h h' : Heap) (e C d : Addr) (v : Value) : Prop where
  keep : ∀ b o, h.get? b = some o → h'.get? b = some o
  new : h.objs.size ≤ e
  obj : ∃ oe vs, h'.get? e = some oe ∧ oe.cls = .ref C ∧ oe.dict = some d ∧ oe.data = .fields vs ∧ vs[1]? = some .none
  dbig : h.objs.size ≤ d
  dne : d ≠ e
  ns : h'.Ns1 d (fun y => if y = "number" then some v else none)
theorem sup_made (T : SupTxt prog K mg x C fI) {v : Value} (X : K.In s.heap) (hlim : s.heap.NoLimit) (G : s.heap.Ns mainGlobals mg) (Bn : s.heap.Ns builtinsNs mb) (hb : mb "super" = some (.type "super")) (hroom : A.depth + 1 < recursionLimit)
    (hq : ∀ h' tk e d, SupMade s.heap h' e C d v → R (.ok (.ret (.ref e))) { s with heap := h', toks := tk }) :
    codeAny (model prog w) A (.call (.ref C) ⟨[v], []⟩) R s := by
  obtain ⟨nm, q, N, bs, bm, sn, sub, ab, col, dd, k0, k1, k2, k3, k5, hC, hbm⟩ := T.cls
  obtain ⟨hp, g, dr, tk, os⟩ := s
  have k : ∀ b o, hp.get? b = some o → ((hp.push (kdv_tup [v])).push (excO C hp.objs.size)).get? b = some o := fun b o z => Heap.get?_push_of_some _ (Heap.get?_push_of_some _ z)
  have hget : ((hp.push (kdv_tup [v])).push (excO C hp.objs.size)).get? (hp.objs.size + 1) = some (excO C hp.objs.size) := by heap_get
  have hnx : K.lookup (hp.objs.size + 1) = none := by
    cases z : K.lookup (hp.objs.size + 1) with
    | none => rfl
    | some o => exact absurd (Nat.lt_of_succ_lt (Heap.lt_size (show hp.get? (hp.objs.size + 1) = some o from X _ _ z))) (Nat.lt_irrefl _)
  refine call_own F.excBase_ValueError (fun X => refsVE_contains X bm hbm) (X _ _ hC) (looks_findIn X T.iC) (fun self => bind_fn X self T.tC) (by show 1 ≤ sizeLine; decide) ?_
  refine sup_init (s := ⟨(hp.push (kdv_tup [v])).push (excO C hp.objs.size), g, dr, tk, os⟩) T (X.keeps k) (hlim.keeps k) (G.keeps k) (Bn.keeps k) hb hget hnx (show A.depth + 1 < recursionLimit from hroom) fun h' tk' dx t1 S => ?_
  have old : ∀ b o, hp.get? b = some o → h'.get? b = some o := fun b o z => S.keep b o (Nat.ne_of_lt (Nat.lt_succ_of_lt (Heap.lt_size z))) (k b o z)
  have z : hp.objs.size + 1 + 1 ≤ dx := by
    have q := S.dbig
    first
      | exact q
      | (simpa only [Heap.size_push] using q)
  exact ⟨rfl, hq h' tk' (hp.objs.size + 1) dx ⟨old, Nat.le_succ _, ⟨_, _, S.obj, rfl, rfl, rfl, rfl⟩, Nat.le_trans (Nat.le_trans (Nat.le_succ _) (Nat.le_succ _)) z, S.dne, S.ns⟩⟩
end
end SupX
namespace L2
open PySem PySem.Spec PyProof.Rows
theorem relO_num {v : V} {v' : Value} (r : RelV v v') (f : Str) : RelO (List.lookup f [(("number" : Str), v)]) (if f = "number" then some v' else none) := by
  by_cases hw : f = "number"
  · subst hw
    rw [if_pos rfl]
    have q : List.lookup ("number" : Str) [(("number" : Str), v)] = some v := by simp [List.lookup]
    rw [q]
    exact r
  · rw [if_neg hw]
    have qw : (f == ("number" : Str)) = false := by simpa using hw
    have q2 : List.lookup f [(("number" : Str), v)] = none := by simp [List.lookup, qw]
    rw [q2]
    trivial
section
variable {X : Cx} {x : Str} {C fI : Addr}
/-- C(e), such an error -/
def tMkSup (C : Addr) (ta : TA) : L2.St → Hp → XK → Prop := fun σ H Q => ta σ H fun vs H1 => ∃ v, vs = [v] ∧ ∀ d, H1 d = none → Q (.ref C) (some d) (upd H1 d (.xd [(("number" : Str), v)]))
theorem pmk_sup {a : Expr} {ta : TA} {p pos : Pos} {k : Nat} (T : SupX.SupTxt X.prog X.K X.mg x C fI) (hr : Room k X.A) (ha : PA X [a] ta) (hg : Gl X x := by rfl) (hdb : (x == ("__debug__" : Str)) = false := by decide)
    (he : starEach (a :: []) X.env = (false, eval a X.env) :: starEach [] X.env := by rfl) (hpl : (backTo pos (starEach [] X.env)).any (·.1) = false := by rfl) :
    PMk X (.Call (.Name x p) [a] [] pos) (tMkSup C ta) := by
  intro pins s σ H Q I h
  refine wpAny_Call_Name_kw (ld_glob I hg T.gC ?_ hdb)
  refine PySem.W.callWith_K (h₀ := X.base) I.ok.mod.kin T.kC (thn (ha.run pos pins s σ H _ I h) fun us s1 hh => ?_) he hpl
  obtain ⟨vs, H1, I1, r1, v, ev, q1⟩ := hh
  subst ev
  refine ⟨I1.kIn, ?_⟩
  cases r1 with
  | cons rv rn =>
    rename_i v' us'
    cases rn
    show wpAny _ _ (call (.ref C) [v']) _ _ _
    have hlim := I1.nolimit
    obtain ⟨mb, hB, hmb⟩ := I1.ok.mod.blt
    have hG := I1.ok.mod.glob.keeps I1.bk
    have hB := hB.keeps I1.bk
    have hsup : mb "super" = some (.type "super") := (hmb "super" (by decide)).trans (by decide +kernel)
    obtain ⟨hp, g, dr, tk, os⟩ := s1
    refine wpAny_call (SupX.sup_made (s := ⟨hp, g, dr, tk, os⟩) T I1.kIn hlim hG hB hsup (by have := hr.dp; omega) fun h' tk' e d M => ?_)
    show MkP X pins σ Q (.ref e) ⟨h', g, dr, tk', os⟩
    obtain ⟨oe, fv, hoe, hc, hd, hdat, h1⟩ := M.obj
    obtain ⟨G', g1, g2⟩ := restrict h' fun b => decide (b ≠ e)
    have gk : ∀ b, b ≠ e → G'.get? b = h'.get? b := fun b hb => g1 b (decide_eq_true hb)
    have ge : G'.get? e = none := g2 e (by simp)
    have old : ∀ b o, hp.get? b = some o → G'.get? b = some o := fun b o q => (gk b (Nat.ne_of_lt (Nat.lt_of_lt_of_le (Heap.lt_size q) M.new))).trans (M.keep b o q)
    have ob : ObjOk X.prog X.w (upd H1 d (.xd [(("number" : Str), v)])) G' d (.xd [(("number" : Str), v)]) := ⟨_, M.ns.at (fun o q => (gk d M.dne).trans q), fun f => relO_num rv f⟩
    have J : Inv X pins σ (upd H1 d (.xd [(("number" : Str), v)])) ⟨G', g, dr, tk', os⟩ := I1.laid (t' := tk') old M.dbig ob
    refine ⟨e, oe, fv, ⟨G', g, dr, tk', os⟩, _, .ref C, some d, rfl, J, fun b o q => ?_, ge, hoe, ⟨hc, hd⟩, hdat, h1, ?_, rfl, I1.bare, raises_own T.exC T.tyC, q1 d (I1.hok.fresh M.dbig)⟩
    · by_cases hb : b = e
      · have q' : G'.get? b = some o := q
        rw [hb, ge] at q'; cases q'
      · exact (gk b hb).symm.trans q
    · rw [upd_ne (Ne.symm M.dne)]
      exact I1.hok.fresh M.new
end
end L2

set_option Elab.async false
set_option linter.all false
set_option maxRecDepth 100000
set_option maxHeartbeats 4000000
/-! try: .. with several clauses «except C as n», n one and the same name; a raise of the errors of Bx; their field read in a suite. -/
namespace L2
open PySem PySem.Spec PyProof.Rows
/-- behind a suite with a name: the name's slot is empty again -/
def endsAs (D : Ends) (i : Nat) : Ends :=
  { nx := fun τ G => D.nx (τ.set i none) G, rt := D.rt, bk := fun τ G => D.bk (τ.set i none) G, ct := fun τ G => D.ct (τ.set i none) G }
/-- what the clauses wish of an error of the body, one after the other; slot i is the name's -/
def wMas (K : PySem.W.Frag) (i : Nat) (Wout : WX) (D : Ends) : List (Value × (Addr → Value → Option Addr → TS)) → WX
  | [] => Wout
  | (c, ts) :: r => fun cls d τ G => ∃ b, PySem.W.exmOne K cls c = some b ∧
      (b = true → ∀ a, G a = none → ts a cls d (endsAs D i) (τ.set i (some (.ref a))) G) ∧ (b = false → wMas K i Wout D r cls d τ G)
inductive HdsAs (X : Cx) (n : Str) : List ExceptHandler → List (Value × (Addr → Value → Option Addr → TS)) → Prop
  | nil : HdsAs X n [] []
  | cons {x : Str} {c : Value} {ts : Addr → Value → Option Addr → TS} {first : Stmt} {suite : List Stmt} {np hpos : Pos} {more : List ExceptHandler} {l : List (Value × (Addr → Value → Option Addr → TS))}
      (named : Names X x c)
      (body : ∀ (a : Addr) (oe : Obj) (cls : Value) (d : Option Addr) (pn : List (Addr × Obj)), Zc cls d oe → (∃ vs, oe.data = .fields vs) → PSs (X.suite a ((a, oe) :: pn)) (first :: suite) (ts a cls d))
      (rest : HdsAs X n more l) : HdsAs X n (.ExceptHandler (some (.Name x np)) (some n) (first :: suite) hpos :: more) ((c, ts) :: l)
section
variable {X : Cx} {n : Str} {i : Nat} {body : List Stmt} {one : ExceptHandler} {more : List ExceptHandler} {l : List (Value × (Addr → Value → Option Addr → TS))} {pos : Pos} {tb : WX → TS} {Wout : WX}
theorem ps_try_mas (hst : X.stack = X.env :: X.outer) (hfr : X.env.frame = some X.env.locals) (nd : X.N.Nodup) (hi : X.N[i]? = some n) (hln : X.env.kindOf n = some .local) (tk : Takes X Wout)
    (hbody : ∀ (W : WX) (pn : List (Addr × Obj)) (xe : Value → Shared → Prop), Takes (X.tr pn xe) W → PassesOwn (model X.prog X.w) X.A X.env xe → PSs (X.tr pn xe) body (tb W))
    (hh : HdsAs X n (one :: more) l) : PS X (.Try body (one :: more) [] [] pos) (fun D τ G => tb (wMas X.K i Wout D l) D τ G) := by
  refine ⟨fun pins s τ G D I w0 => wpAny_Try_except ?_⟩
  have ok := I.ok
  have hframes : X.A.frames = some (X.env :: X.outer) := by rw [ok.frames, hst]
  have hloc : Loc X.env.scope n := .inl hln
  have ran := (hbody (wMas X.K i Wout D l) (X.pn ++ pins)
    (fun er t1 => wpAny (model X.prog X.w) X.A (noteFrame er X.env) (fun _ t2 => wpAny (model X.prog X.w) X.A (setFlight er none) (fun _ t3 => wpAny (model X.prog X.w) X.A (handleBy er X.env (one :: more)) (SP X pins D) X.xe t3) X.xe t2) X.xe t1)
    (fun u s' xx => ?_) PassesOwn.looking).run [] s τ G D (I.toTry _) w0
  · refine wpAny_mono ran (fun fl t1 hsp => ?_) fun er t1 z => z
    cases fl with
    | next => exact let ⟨τ', G', J, q⟩ := hsp; wpAny_execs_nil ⟨τ', G', J.ofTry ok, q⟩
    | brk => exact let ⟨τ', G', J, q⟩ := hsp; ⟨τ', G', J.ofTry ok, q⟩
    | cont => exact let ⟨τ', G', J, q⟩ := hsp; ⟨τ', G', J.ofTry ok, q⟩
    | ret u => exact let ⟨v, τ', G', J, r, q⟩ := hsp; ⟨v, τ', G', J.ofTry ok, r, q⟩
  · obtain ⟨a, Bs, sI, pins', τ', G', cls, d, rfl, J', nb, up, sky, na, os, ag, wish⟩ := xx
    have J : Inv X pins τ' G' sI := J'.ofTry ok
    have sky2 : Sky Bs (X.env :: X.outer) a (Zc cls d) X.env.locals s'.heap := by rw [← hst]; exact sky
    show wpAny _ X.A (noteFrame (.ref a) X.env) _ _ _
    refine Sky.land Zc.steady hframes hfr sky2 fun h3 fl3 up3 => ?_
    have J3 : Inv X pins τ' G' { s' with heap := h3 } := J.landed nb fl3.1 (up.trans up3) os ag
    obtain ⟨oe3, vs3, at3, z3, dat3⟩ := fl3.there
    have out : a ∉ frs (X.env :: X.outer) := fun hm => by
      obtain ⟨_, o', e', no⟩ := fl3.2.2.1.mem hm
      rw [at3] at e'; cases e'
      exact no _ dat3
    have outL : a ≠ X.env.locals := fun z => out (List.mem_filterMap.mpr ⟨X.env, List.mem_cons_self, by rw [hfr, z]⟩)
    have outF : a ∉ X.fs := fun hm => by
      obtain ⟨en, hen, q⟩ := List.mem_filterMap.mp hm
      exact out (List.mem_filterMap.mpr ⟨en, List.mem_cons_of_mem _ hen, q⟩)
    have S3 := J3.suite at3 dat3 na outL outF
    have walk : ∀ {hs : List ExceptHandler} {ls : List (Value × (Addr → Value → Option Addr → TS))}, HdsAs X n hs ls → wMas X.K i Wout D ls cls d τ' G' →
        wpAny (model X.prog X.w) X.A (handleBy (.ref a) X.env hs) (SP X pins D) X.xe { s' with heap := h3 } := by
      intro hs ls hk
      induction hk with
      | nil =>
        intro wish
        refine wpAny_handleBy_nil ?_
        obtain ⟨_, _, _, oe, vs, T, oT, ts', at', _, dat', at1, _⟩ := id fl3
        have off : wpAny (model X.prog X.w) X.A (setFlight (.ref a) X.env.frame) (fun _ t4 => wpAny (model X.prog X.w) X.A (throw (.ref a) : Sem Flow) (SP X pins D) X.xe t4) X.xe { s' with heap := h3 } := by
          rw [hfr]
          exact HandSPX.setFlight_upZ fl3 fun h4 hi4 up4 => wpAny_throw (tk _ _ ⟨a, Bs, sI, pins, τ', G', cls, d, rfl, J, nb, (up.trans up3).trans up4, .inr (.inr (by rw [hst]; exact hi4)), na, os, ag, wish⟩)
        unfold PySem.passOn
        refine wpAny_bind (wpAny_field at' dat' at1 ?_)
        rw [if_neg (show ¬ ((Value.ref T == Value.none) = true) by simp)]
        first
          | exact wpAny_bind (wpAny_pure (wpAny_bind off))
          | exact wpAny_bind off
      | @cons x c ts fs suite np hpos hs2 l2 named hsuite rest ih =>
        intro wish
        obtain ⟨b, hb1, yes, no⟩ := wish
        refine wpAny_handleBy_cons (codeAny_handlers_test ?_) (by intro q; cases q)
        have lookT : PySem.W.Looks (model X.prog X.w) h3 (typeOf (.ref a)) cls := fun A Q E t k q => wpAny_typeOf_ref (k _ _ at3) (by rw [z3.1]; exact q)
        have lookM := PySem.W.exm_one (M := model X.prog X.w) J3.kIn lookT hb1
        have asked : ∀ {Q : Value → Shared → Prop} {E : Value → Shared → Prop}, Q c { s' with heap := h3 } → wpAny (model X.prog X.w) (X.A.mark (some (.ref a))) (eval (.Name x np) X.env) Q E { s' with heap := h3 } := fun {Q E} q => by
          obtain ⟨hg, hdbg, hm | ⟨hm, hv, hnn⟩⟩ := named
          · exact ld_glob (X := X.suite a ((a, oe3) :: (X.pn ++ pins))) S3 hg hm q hdbg
          · exact ld_blt (X := X.suite a ((a, oe3) :: (X.pn ++ pins))) S3 hg hm hv q hnn hdbg
        refine asked (lookM.here ?_)
        cases b with
        | false => exact ih (no rfl)
        | true =>
          refine codeAny_handlers_suite_as (HandSPX.lands_againZ fl3 fun h4 fl4 up4 => ?_)
          have J4 : Inv X pins τ' G' { s' with heap := h4 } := J.landed nb fl4.1 ((up.trans up3).trans up4) os ag
          obtain ⟨oe4, vs4, at4, z4, dat4⟩ := fl4.there
          have S4 := J4.suite at4 dat4 na outL outF
          refine store_ok (X := X.suite a ((a, oe4) :: (X.pn ++ pins))) (v := .ref a) S4 nd hi hloc rfl (fun t5 S5 => ?_) (.inr hln)
          have run := (hsuite a oe4 cls d (X.pn ++ pins) z4 ⟨_, dat4⟩).run [] t5 _ G' _ S5 (yes rfl a na)
          refine wpAny_mono run (fun fl t6 hsp => ?_) fun _ _ z => z.elim
          have fin : ∀ {τ6 : St} {G6 : Hp} {Q : Shared → Prop}, Inv (X.suite a ((a, oe4) :: (X.pn ++ pins))) [] τ6 G6 t6 → (∀ t7, Inv X pins (τ6.set i none) G6 t7 → Q t7) →
              wpAny (model X.prog X.w) X.A (do bindName X.env n .none; unbindBehindTheSuite X.env n hpos) (fun _ t7 => Q t7) X.xe t6 := fun {τ6 G6 Q} S6 hq => gone_ok (S6.unsuite ok) nd hi hln hq
          cases fl with
          | next => exact let ⟨_, _, S6, q6⟩ := hsp; fin S6 fun t7 J7 => ⟨_, _, J7, q6⟩
          | brk => exact let ⟨_, _, S6, q6⟩ := hsp; fin S6 fun t7 J7 => ⟨_, _, J7, q6⟩
          | cont => exact let ⟨_, _, S6, q6⟩ := hsp; fin S6 fun t7 J7 => ⟨_, _, J7, q6⟩
          | ret u => exact let ⟨_, _, _, S6, r6, q6⟩ := hsp; fin S6 fun t7 J7 => ⟨_, _, _, J7, r6, q6⟩
    exact walk hh wish
end
/-! ### raise C(e) -/
section
variable {X : Cx} {x : Str} {C fI : Addr}
def tRaiseSup (C : Addr) (W : WX) (ta : TA) : TS := fun _ τ G => tMkSup C ta τ G fun cls d G' => W cls d τ G'
theorem ps_raiseSup {a : Expr} {ta : TA} {W : WX} {p pos pos2 : Pos} {k : Nat} (hc : X.calm = true) (T : SupX.SupTxt X.prog X.K X.mg x C fI) (hr : Room k X.A) (tk : Takes X W) (ha : PA X [a] ta) (hg : Gl X x := by rfl) (hdb : (x == ("__debug__" : Str)) = false := by decide)
    (he : starEach (a :: []) X.env = (false, eval a X.env) :: starEach [] X.env := by rfl) (hpl : (backTo pos (starEach [] X.env)).any (·.1) = false := by rfl) :
    PS X (.Raise (some (.Call (.Name x p) [a] [] pos)) none pos2) (tRaiseSup C W ta) := ps_raise hc tk (pmk_sup T hr ha hg hdb he hpl)
end
end L2
namespace G3
open PySem PySem.Spec PyProof.Rows L2
/-- the same of a def that may raise -/
theorem has_ofX {P : Program} {w : World} {K : PySem.W.Frag} {mg : Str → Option Value} {base : Heap} {k : Nat} {x nm : Str} {ps : List Str} {sp : Sp} {st : Stmt} {N : List Str} (D : DefAt K mg x nm st) (S : FnScope N ps (defScope st))
    (hb : ∀ (kV doc pm : Value) (an : Option Addr) (cdv ct : Value) (us : List Value), us.length = ps.length → bindArgs (PySem.W.fnOf nm nm (defArgs st) (defBody st) (defScope st) .none kV doc pm an cdv ct) ⟨us, []⟩ = pure (ps.zip us))
    (len : ∀ vs H Q E, sp vs H Q E → vs.length = ps.length)
    (hbody : ∀ (f : Addr) (cdv : Value) (A : Around) (outer : List Env) (s : Shared) (H : Hp) (vs : List V) (Q : VK) (E : XK), Room k (A.deeper (envOfC nm (defScope st) s.heap.objs.size f cdv)) → sp vs H Q E →
      ∃ t, PSs (cxOf (L2.CX P w) P w K mg base N nm (defScope st) f cdv A outer s H E) (defBody st) t ∧ t { nx := fun _ H' => Q .non H', rt := Q } (start N vs) H) : Has P w K mg base (L2.CX P w) (k + 1) x ps sp := by
  obtain ⟨f, fd, F, m⟩ := D
  exact ⟨f, fd, F.okX S len (fun cdv A outer s H vs Q E hr hs => hbody f cdv A outer s H vs Q E hr hs), m, F.kp, F.binds hb⟩
/-- a call of a def that may raise, E σ what is wanted of the error -/
theorem pe_hS {X : Cx} {CX : CXT} {k j : Nat} {x : Str} {ps : List Str} {sp : Sp} {E : L2.St → XK} {p pos : Pos} {e : Expr} {es : List Expr} {t : TA} (h : Has X.prog X.w X.K X.mg X.base CX k x ps sp) (hr : Room j X.A) (hx : ∀ σ, PassesAt CX X σ (E σ))
    (ha : PA X (e :: es) t) (hk : k ≤ j := by first | decide | omega) (hg : Gl X x := by rfl) (hdb : (x == ("__debug__" : Str)) = false := by decide) (he : starEach (e :: es) X.env = (false, eval e X.env) :: starEach es X.env := by rfl)
    (hpl : (backTo pos (starEach es X.env)).any (·.1) = false := by rfl) : PE X (.Call (.Name x p) (e :: es) [] pos) (tCallS sp E t) := by
  obtain ⟨f, fd, F, m, kp, b⟩ := h
  exact pe_callS F (hr.mono hk) hg m kp b hx ha hdb he hpl
end G3

set_option Elab.async false
set_option linter.all false
set_option maxRecDepth 100000
set_option maxHeartbeats 4000000
/-! Rows that are lists or tuples: walked, walked with their numbers; a < b < c < d. -/
namespace G3
open PySem PySem.Spec PyProof.Rows L2
/-! ### for x in row -/
def iRow (K : PySem.W.Frag) (tl : TE) : TI := fun σ H R => tl σ H fun x H1 => ∃ a, x = .ref a ∧ (((∃ xs, SqL K H1 a xs) ∧ R (Itl K a) H1) ∨ ((∃ xs, SqT K H1 a xs) ∧ R (Itt K a) H1))
theorem pi_row {X : Cx} {K : PySem.W.Frag} (hK : X.K = K) {tg l : Expr} {tl : TE} (hl : PE X l tl) : PI X tg l (iRow K tl) := by
  subst hK
  refine ⟨fun pins s σ H R I h => thn (hl.run pins s σ H _ I h) fun v s1 ⟨x, H1, I1, r1, a, ex, q⟩ => ?_⟩
  subst ex
  obtain rfl : v = Value.ref a := r1
  have own : ∀ b ∈ [s1.heap.objs.size], FpOk X pins H1 b := fun b hb => by
    rw [List.mem_singleton.mp hb]
    exact I1.fpOk (Nat.le_refl _) (I1.hok.fresh (Nat.le_refl _))
  rcases q with ⟨⟨xs, hq⟩, q⟩ | ⟨⟨xs, hq⟩, q⟩
  · obtain ⟨its, rv, p, hz⟩ := I1.list hq
    exact wpAny_pyIter_list p.isList ⟨_, [s1.heap.objs.size], _, _, H1, rfl, I1.kept (t' := s1.toks) fun b o z => Heap.get?_push_of_some _ z, turn_list a _, ⟨_, Heap.get?_push_size _ rfl, rfl, rfl⟩, own, q⟩
  · obtain ⟨its, rv, p, hz⟩ := I1.tuple hq
    exact wpAny_pyIter_tuple (show s1.heap.IsTuple a its.toArray from p) ⟨_, [s1.heap.objs.size], _, _, H1, rfl, I1.kept (t' := s1.toks) fun b o z => Heap.get?_push_of_some _ z, turn_tuple a _, ⟨_, Heap.get?_push_size _ rfl, rfl, rfl⟩, own, q⟩
theorem seqL_at {K : PySem.W.Frag} {H H' : Hp} {a : Addr} {xs : List V} (k : ∀ o, H a = some o → H' a = some o) (h : SqL K H a xs) : SqL K H' a xs := by
  rcases h with (h | ⟨o, h⟩) | h
  · exact .inl (.inl (k _ h))
  · exact .inl (.inr ⟨o, k _ h⟩)
  · exact .inr h
theorem seqT_at {K : PySem.W.Frag} {H H' : Hp} {a : Addr} {xs : List V} (k : ∀ o, H a = some o → H' a = some o) (h : SqT K H a xs) : SqT K H' a xs := by
  rcases h with (h | ⟨o, h⟩) | h
  · exact .inl (.inl (k _ h))
  · exact .inl (.inr ⟨o, k _ h⟩)
  · exact .inr h
/-- the walk of a row, list or tuple, that the loop leaves as it is -/
theorem for_row {K : PySem.W.Frag} {a : Addr} {xs : List V} {g : TG} {tb : TS} {D : Ends} {σ : L2.St} {H0 H : Hp} (hr : SqL K H0 a xs ∨ SqT K H0 a xs) (Pv : Nat → L2.St → Hp → Prop) (h0 : Pv 0 σ H)
    (keep : ∀ i σ' H', Pv i σ' H' → ∀ o, H0 a = some o → H' a = some o)
    (turn : ∀ i x σ' H', xs[i]? = some x → Pv i σ' H' → g x σ' H' fun σ2 H2 => tb { D with nx := Pv (i + 1), ct := Pv (i + 1), bk := D.nx } σ2 H2) (after : ∀ σ' H', Pv xs.length σ' H' → D.nx σ' H') :
    ((∃ ys, SqL K H a ys) ∧ (∃ W : Nat → Nat → L2.St → Hp → Prop, (∃ m, W 0 m σ H) ∧ ∀ i m σ H, W i m σ H → ((Itl K a).stop i H ∧ D.nx σ H) ∨ ((Itl K a).go i H ∧ ∃ N : L2.St → Hp → Prop, (∀ σ' H', N σ' H' → ∃ m', m' < m ∧ W (i + 1) m' σ' H') ∧ ∀ x H', (Itl K a).yld i H x H' → g x σ H' fun σ2 H2 => tb { D with nx := N, ct := N, bk := D.nx } σ2 H2))) ∨
    ((∃ ys, SqT K H a ys) ∧ (∃ W : Nat → Nat → L2.St → Hp → Prop, (∃ m, W 0 m σ H) ∧ ∀ i m σ H, W i m σ H → ((Itt K a).stop i H ∧ D.nx σ H) ∨ ((Itt K a).go i H ∧ ∃ N : L2.St → Hp → Prop, (∀ σ' H', N σ' H' → ∃ m', m' < m ∧ W (i + 1) m' σ' H') ∧ ∀ x H', (Itt K a).yld i H x H' → g x σ H' fun σ2 H2 => tb { D with nx := N, ct := N, bk := D.nx } σ2 H2))) := by
  rcases hr with h | h
  · exact .inl ⟨⟨_, seqL_at (keep 0 _ _ h0) h⟩, for_list (K := K) (a := a) (xs := xs) Pv h0 (fun i σ' H' _ p => seqL_at (keep i σ' H' p) h) turn after⟩
  · exact .inr ⟨⟨_, seqT_at (keep 0 _ _ h0) h⟩, for_tup (K := K) (a := a) (xs := xs) Pv h0 (fun i σ' H' _ p => seqT_at (keep i σ' H' p) h) turn after⟩

/-! ### for i, x in enumerate(row) -/
/-- the tuple at a as it stands at each turn, each item in a new pair with its number -/
def Ieu (K : PySem.W.Frag) (a : Addr) : It where
  go := fun i H => ∃ (xs : List V) (x : V), SqT K H a xs ∧ xs[i]? = some x
  yld := fun i H v H' => ∃ T x, v = .ref T ∧ H T = none ∧ H' = upd H T (.tup [.int (i : Nat), x]) ∧ ∀ xs, SqT K H a xs → xs[i]? = some x
  stop := fun i H => ∃ xs : List V, SqT K H a xs ∧ xs.length ≤ i
theorem turn_enumU {P : Program} {w : World} {K : PySem.W.Frag} {elts : List Expr} {kk : Nat} {tpos : Pos} (a e it : Addr) :
    Turn P w K (.Tuple elts kk tpos) (Ieu K a) [e, it] e (fun i h => (∃ old, IsEnum h e it ((i : Nat) : Int) old) ∧ h.IsTupleIter it a i ∧ e ≠ it) where
  mem := by simp
  obj := fun i h st b hb => by
    obtain ⟨⟨old, he⟩, ⟨o, ho, hc, hd⟩, _⟩ := st
    rcases (show b = e ∨ b = it by simpa using hb) with z | z
    · exact z ▸ ⟨_, he, fun v q => nomatch q⟩
    · exact z ▸ ⟨o, ho, fun v q => by rw [hd] at q; cases q⟩
  keep := fun i h h' st k => let ⟨⟨old, he⟩, hi, hne⟩ := st; ⟨⟨old, k e (by simp) _ he⟩, hi.at fun o q => k it (by simp) o q, hne⟩
  item := by
    intro X hP hw hK hc i pins s σ H E I hf st hg
    subst hP hw hK
    obtain ⟨⟨old, he⟩, hit, hne⟩ := st
    obtain ⟨xs, x, hq, hx⟩ := hg
    obtain ⟨its, rv, p, hz⟩ := I.tuple hq
    obtain ⟨u, hu, ru⟩ := rv.get hx
    have hel := Heap.lt_size he
    have hil : it < s.heap.objs.size := let ⟨_, q, _⟩ := hit; Heap.lt_size q
    have nai : a ≠ it := fun z => by
      obtain ⟨o1, h1, c1, _⟩ := hit
      obtain ⟨o2, h2, c2, _⟩ := p
      rw [z, h1] at h2
      cases h2
      rw [c1] at c2
      exact absurd c2 (by decide)
    have nae : e ≠ a := fun z => by
      obtain ⟨o2, h2, c2, _⟩ := p
      rw [← z, he] at h2
      cases h2
      exact absurd (show Value.type "enumerate" = Value.type "tuple" from c2) (by decide)
    have hlt : i < its.toArray.size := by
      have := (List.getElem?_eq_some_iff.mp hu).1
      simpa using this
    refine wpAny_pyNext_enum_itemD (Draws.tuple (w := X.w) (A := X.A.in1) (I.ok.hd hc) it a nai its.toArray) he ⟨hit, (show s.heap.IsTuple a its.toArray from p)⟩ hlt hne (by simp [hne, nae]) fun y h' tk hy ho hst hT hsz hk => ?_
    have ey : u = y := by
      have z : its[i]? = some y := by simpa using hy
      exact Option.some.inj (hu.symm.trans z)
    subst ey
    refine ⟨_, rfl, wpAny_letOwnedTupleGo_enum (s := { s with heap := h', toks := tk + 1 }) ho fun h'' he' sb => ?_⟩
    have hT2 : h''.get? s.heap.objs.size = some { cls := .type "tuple", data := .seq #[.int i tk, u] } := (sb.2 _ (Nat.ne_of_gt hel)).trans hT
    have laid : ObjOk X.prog X.w (upd H s.heap.objs.size (.tup [.int (i : Nat), x])) h'' s.heap.objs.size (.tup [.int (i : Nat), x]) :=
      ⟨by show 2 ≤ sizeLine; decide, [.int i tk, u], .cons ⟨_, rfl⟩ (.cons ru .nil), ⟨_, hT2, rfl, _, rfl⟩⟩
    have I1 : Inv X pins σ (upd H s.heap.objs.size (.tup [.int (i : Nat), x])) { s with heap := h'', toks := tk + 1 } :=
      I.turnedNew (ch := [e, it]) (fun b ob hb q => (sb.2 b (fun z => hb (by simp [z]))).trans (hk b ob (fun z => hb (by simp [z])) (fun z => hb (by simp [z])) q)) hf (Nat.le_refl _) laid
    refine ⟨.ref s.heap.objs.size, _, I1, rfl, ⟨_, x, rfl, I.hok.fresh (Nat.le_refl _), rfl, fun ys hy => by rw [I.tuple_inj hy hq]; exact hx⟩, ⟨⟨u, ?_⟩, hst.1.at fun o q => (sb.2 it (Ne.symm hne)).trans q, hne⟩, fun b hb => ?_⟩
    · have e1 : ((i + 1 : Nat) : Int) = (i : Int) + 1 := by omega
      exact e1 ▸ he'
    · have hb' : b < s.heap.objs.size := by
        rcases (show b = e ∨ b = it by simpa using hb) with z | z
        · exact z ▸ hel
        · exact z ▸ hil
      rw [upd_ne (Nat.ne_of_lt hb')]
      exact (hf b hb).1
  done := by
    intro X hP hw hK hc i pins s σ H E I hf st hg
    subst hP hw hK
    obtain ⟨⟨old, he⟩, hit, hne⟩ := st
    obtain ⟨xs, hq, hx⟩ := hg
    obtain ⟨its, rv, p, hz⟩ := I.tuple hq
    obtain ⟨f0, f1, f2, f3, f4, f5⟩ := hf it (by simp)
    have hl := rv.length
    have hT : s.TypeIs (.ref e) "enumerate" := ⟨_, he, rfl⟩
    unfold pyNext
    refine wpAny_bind (wpAny_attempt (wpAny_callSpecial?_slot (name := Str.ofString "__next__") hT F.slot_enumerate_next (wpAny_call_entry F.slot_enumerate_next hT F.entry_enumerate_next ?_ (F.args_enumerate_next_1 _))))
    show wpAny _ _ (field (.ref e) 2 >>= _) _ _ _
    refine wpAny_bind (wpAny_field he rfl (x := .ref it) rfl (wpAny_bind (wpAny_nextOf_tuple_end (A := X.A.in1) (I.ok.hd hc) hit (show s.heap.IsTuple a its.toArray from p) (by simp; omega) fun h' x' he' hx' => ?_)))
    obtain ⟨o, ho, hcc⟩ := hx'
    refine wpAny_bind (wpAny_isInstance (T := "StopIteration") (b := true) ⟨o, ho, hcc⟩ isSubtype_stop (wpAny_pure ⟨rfl, I.turned (t' := s.toks) (fun b o hb q => he' b o hb q) f0 f1 f3 f4 f5⟩))
  self := fun A i s Q E st h => let ⟨⟨_, he⟩, _⟩ := st; wpAny_pyIter_enum he h

end G3
namespace PySem
open Sem (wp)
theorem meets_enumerate_new1 {v : Value} {o : Obj} {Hh : Heap → Prop} (B : Begins v o Hh) :
    Meets (Builtin.«enumerate.__new__» ⟨[.type "enumerate", v], []⟩) (fun _ R s => Hh s.heap ∧
      R (.ok (.ret (.ref (s.heap.push o).objs.size))) { s with heap := (s.heap.push o).push { cls := .type "enumerate", data := .fields #[.none, .bool false, .ref s.heap.objs.size, rawInt 0, .none, .none] } }) :=
  .of_wp fun prog w A R s h => by
    obtain ⟨hp, g, d, tk, os⟩ := s; obtain ⟨h1, h⟩ := h
    have hsub := sub_enumerate
    have q1 : ∀ {A' : Around} {E : Value → Shared → Prop} {Q : Value → Shared → Prop}, Q (.ref hp.objs.size) ⟨hp.push o, g, d, tk, os⟩ → wpAny (model prog w) A' (pyIter v) Q E ⟨hp, g, d, tk, os⟩ :=
      fun q => B.iter prog w _ _ ⟨hp, g, d, tk, os⟩ _ h1 q
    wp_walk using q1
    refine wpAny_stack_any fun st => wpAny_pure ?_
    split
    · rename_i c _ _ _ _ _
      cases (c == Value.type "enumerate")
      · wp_walk using q1
        exact ⟨_, rfl, h⟩
      · wp_walk using q1
        exact ⟨_, rfl, h⟩
    · wp_walk using q1
      exact ⟨_, rfl, h⟩
section
variable {prog : Program} {w : World} {A : Around} {E : Value → Shared → Prop} {s : Shared}
theorem enum_begins1 {v : Value} {o : Obj} {Hh : Heap → Prop} {Q : Value → Shared → Prop} (B : Begins v o Hh) (h1 : Hh s.heap)
    (h : ∀ h', IsEnum h' (s.heap.objs.size + 1) s.heap.objs.size 0 .none → h'.get? s.heap.objs.size = some o → h'.objs.size = s.heap.objs.size + 2 →
      (∀ b o, s.heap.get? b = some o → h'.get? b = some o) → Q (.ref (s.heap.objs.size + 1)) { s with heap := h' }) :
    wpAny (model prog w) A (call (.type "enumerate") [v]) Q E s := by
  refine callType_new F.called_enumerate (by decide) (F.typeCall_enumerate_1 _) (F.newCall_enumerate_1 _) (fun obj => F.args_object_init_2 obj _) F.entry_enumerate_new
    (meets_enumerate_new1 B) ⟨h1, ?_⟩
  have hz : (s.heap.push o).objs.size = s.heap.objs.size + 1 := Heap.size_push ..
  show _ ∧ _
  rw [hz]
  have he : IsEnum ((s.heap.push o).push { cls := .type "enumerate", data := .fields #[.none, .bool false, .ref s.heap.objs.size, rawInt 0, .none, .none] }) (s.heap.objs.size + 1) s.heap.objs.size 0 .none := by
    have := Heap.get?_push_size (s.heap.push o) (o := { cls := .type "enumerate", data := .fields #[.none, .bool false, .ref s.heap.objs.size, rawInt 0, .none, .none] }) rfl
    rw [hz] at this; exact this
  refine ⟨⟨_, he, rfl⟩, h _ he (Heap.get?_push_of_some _ (Heap.get?_push_size _ B.free)) (by rw [Heap.size_push, hz]) fun b o x => Heap.get?_push_of_some _ (Heap.get?_push_of_some _ x)⟩
end
end PySem
namespace G3
open PySem PySem.Spec PyProof.Rows L2
def iEnumR (K : PySem.W.Frag) (ta : TA) : TI := fun σ H R => ta σ H fun vs H1 => ∃ a, vs = [.ref a] ∧ (((∃ xs, SqL K H1 a xs) ∧ R (Ite K a) H1) ∨ ((∃ xs, SqT K H1 a xs) ∧ R (Ieu K a) H1))
theorem pi_enumR {X : Cx} {K : PySem.W.Frag} (hK : X.K = K) {e : Expr} {ta : TA} {p pos tpos : Pos} {elts : List Expr} {kk : Nat} (hg : Gl X "enumerate") (hm : X.mg "enumerate" = none) (ha : PA X [e] ta) (hs : starEach [e] X.env = [(false, eval e X.env)] := by rfl) :
    PI X (.Tuple elts kk tpos) (.Call (.Name "enumerate" p) [e] [] pos) (iEnumR K ta) := by
  subst hK
  refine ⟨fun pins s σ H R I h => ?_⟩
  refine Call_ (ld_blt I hg hm boot_enumerate (PyProof.Rows.callWith_type1 (thn (ha.run pos pins s σ H _ I h) fun us s1 ⟨vs, H1, I1, r1, q1⟩ => ?_) hs rfl))
  obtain ⟨a, ex, q⟩ := q1
  subst ex
  cases r1 with
  | cons r rr =>
    cases rr
    cases r
    have fresh : ∀ b ∈ [s1.heap.objs.size + 1, s1.heap.objs.size], FpOk X pins H1 b := fun b hb => by
      have e' : b = s1.heap.objs.size + 1 ∨ b = s1.heap.objs.size := by simpa using hb
      have hle : s1.heap.objs.size ≤ b := by
        rcases e' with z | z
        · rw [z]; exact Nat.le_add_right _ _
        · rw [z]; exact Nat.le_refl _
      exact I1.fpOk hle (I1.hok.fresh hle)
    rcases q with ⟨⟨xs, hq⟩, q⟩ | ⟨⟨xs, hq⟩, q⟩
    · obtain ⟨its, rv, p', hz⟩ := I1.list hq
      refine call_enumerate_list p'.isList fun h' he hit hsz hk => wpAny_pyIter_enum he ?_
      have I2 : Inv X pins σ H1 { s1 with heap := h' } := I1.kept (t' := s1.toks) hk
      exact ⟨s1.heap.objs.size + 1, [s1.heap.objs.size + 1, s1.heap.objs.size], _, _, H1, rfl, I2, turn_enum a (s1.heap.objs.size + 1) s1.heap.objs.size, ⟨⟨.none, he⟩, hit, Nat.succ_ne_self _⟩, fresh, q⟩
    · obtain ⟨its, rv, p', hz⟩ := I1.tuple hq
      refine enum_begins1 (begins_tuple a its.toArray) (show s1.heap.IsTuple a its.toArray from p') fun h' he hit hsz hk => wpAny_pyIter_enum he ?_
      have I2 : Inv X pins σ H1 { s1 with heap := h' } := I1.kept (t' := s1.toks) hk
      exact ⟨s1.heap.objs.size + 1, [s1.heap.objs.size + 1, s1.heap.objs.size], _, _, H1, rfl, I2, turn_enumU a (s1.heap.objs.size + 1) s1.heap.objs.size, ⟨⟨.none, he⟩, ⟨_, hit, rfl, rfl⟩, Nat.succ_ne_self _⟩, fresh, q⟩
/-- for i, x in enumerate(list) -/
theorem for_enL {K : PySem.W.Frag} {a : Addr} {xs : List V} {g : TG} {tb : TS} {D : Ends} {σ : L2.St} {H : Hp} (Pv : Nat → L2.St → Hp → Prop) (h0 : Pv 0 σ H) (hl : ∀ i σ H, i ≤ xs.length → Pv i σ H → SqL K H a xs)
    (hs : ∀ (i : Nat) x (T : Addr) σ H, xs[i]? = some x → Pv i σ H → H T = none → g (.ref T) σ (upd H T (.tup [.int (i : Nat), x])) fun σ2 H2 => tb { D with nx := Pv (i + 1), ct := Pv (i + 1), bk := D.nx } σ2 H2) (hd : ∀ σ H, Pv xs.length σ H → D.nx σ H) :
    ∃ W : Nat → Nat → L2.St → Hp → Prop, (∃ m, W 0 m σ H) ∧ ∀ i m σ H, W i m σ H →
      ((Ite K a).stop i H ∧ D.nx σ H) ∨ ((Ite K a).go i H ∧ ∃ N : L2.St → Hp → Prop, (∀ σ' H', N σ' H' → ∃ m', m' < m ∧ W (i + 1) m' σ' H') ∧ ∀ x H', (Ite K a).yld i H x H' → g x σ H' fun σ2 H2 => tb { D with nx := N, ct := N, bk := D.nx } σ2 H2) := by
  refine ⟨fun i m σ H => m = xs.length - i ∧ i ≤ xs.length ∧ Pv i σ H, ⟨xs.length, by simp, Nat.zero_le _, h0⟩, ?_⟩
  rintro i m σ H ⟨rfl, hi, p⟩
  have q := hl i σ H hi p
  by_cases hlt : i < xs.length
  · refine .inr ⟨⟨xs, xs[i], q, by simp [hlt]⟩, Pv (i + 1), fun σ' H' p' => ⟨xs.length - (i + 1), by omega, rfl, hlt, p'⟩, fun x H' y => ?_⟩
    obtain ⟨T, x, rfl, nT, rfl, y⟩ := y
    exact hs i x T σ _ (y xs q) p nT
  · have e : i = xs.length := by omega
    subst e
    exact .inl ⟨⟨xs, q, Nat.le_refl _⟩, hd σ H p⟩
theorem for_enT {K : PySem.W.Frag} {a : Addr} {xs : List V} {g : TG} {tb : TS} {D : Ends} {σ : L2.St} {H : Hp} (Pv : Nat → L2.St → Hp → Prop) (h0 : Pv 0 σ H) (hl : ∀ i σ H, i ≤ xs.length → Pv i σ H → SqT K H a xs)
    (hs : ∀ (i : Nat) x (T : Addr) σ H, xs[i]? = some x → Pv i σ H → H T = none → g (.ref T) σ (upd H T (.tup [.int (i : Nat), x])) fun σ2 H2 => tb { D with nx := Pv (i + 1), ct := Pv (i + 1), bk := D.nx } σ2 H2) (hd : ∀ σ H, Pv xs.length σ H → D.nx σ H) :
    ∃ W : Nat → Nat → L2.St → Hp → Prop, (∃ m, W 0 m σ H) ∧ ∀ i m σ H, W i m σ H →
      ((Ieu K a).stop i H ∧ D.nx σ H) ∨ ((Ieu K a).go i H ∧ ∃ N : L2.St → Hp → Prop, (∀ σ' H', N σ' H' → ∃ m', m' < m ∧ W (i + 1) m' σ' H') ∧ ∀ x H', (Ieu K a).yld i H x H' → g x σ H' fun σ2 H2 => tb { D with nx := N, ct := N, bk := D.nx } σ2 H2) := by
  refine ⟨fun i m σ H => m = xs.length - i ∧ i ≤ xs.length ∧ Pv i σ H, ⟨xs.length, by simp, Nat.zero_le _, h0⟩, ?_⟩
  rintro i m σ H ⟨rfl, hi, p⟩
  have q := hl i σ H hi p
  by_cases hlt : i < xs.length
  · refine .inr ⟨⟨xs, xs[i], q, by simp [hlt]⟩, Pv (i + 1), fun σ' H' p' => ⟨xs.length - (i + 1), by omega, rfl, hlt, p'⟩, fun x H' y => ?_⟩
    obtain ⟨T, x, rfl, nT, rfl, y⟩ := y
    exact hs i x T σ _ (y xs q) p nT
  · have e : i = xs.length := by omega
    subst e
    exact .inl ⟨⟨xs, q, Nat.le_refl _⟩, hd σ H p⟩
/-- for i, x in enumerate(row) -/
theorem for_enR {K : PySem.W.Frag} {a : Addr} {xs : List V} {g : TG} {tb : TS} {D : Ends} {σ : L2.St} {H0 H : Hp} (hr : SqL K H0 a xs ∨ SqT K H0 a xs) (Pv : Nat → L2.St → Hp → Prop) (h0 : Pv 0 σ H)
    (keep : ∀ i σ' H', Pv i σ' H' → ∀ o, H0 a = some o → H' a = some o)
    (hs : ∀ (i : Nat) x (T : Addr) σ H, xs[i]? = some x → Pv i σ H → H T = none → g (.ref T) σ (upd H T (.tup [.int (i : Nat), x])) fun σ2 H2 => tb { D with nx := Pv (i + 1), ct := Pv (i + 1), bk := D.nx } σ2 H2) (hd : ∀ σ H, Pv xs.length σ H → D.nx σ H) :
    ((∃ ys, SqL K H a ys) ∧ (∃ W : Nat → Nat → L2.St → Hp → Prop, (∃ m, W 0 m σ H) ∧ ∀ i m σ H, W i m σ H → ((Ite K a).stop i H ∧ D.nx σ H) ∨ ((Ite K a).go i H ∧ ∃ N : L2.St → Hp → Prop, (∀ σ' H', N σ' H' → ∃ m', m' < m ∧ W (i + 1) m' σ' H') ∧ ∀ x H', (Ite K a).yld i H x H' → g x σ H' fun σ2 H2 => tb { D with nx := N, ct := N, bk := D.nx } σ2 H2))) ∨
    ((∃ ys, SqT K H a ys) ∧ (∃ W : Nat → Nat → L2.St → Hp → Prop, (∃ m, W 0 m σ H) ∧ ∀ i m σ H, W i m σ H → ((Ieu K a).stop i H ∧ D.nx σ H) ∨ ((Ieu K a).go i H ∧ ∃ N : L2.St → Hp → Prop, (∀ σ' H', N σ' H' → ∃ m', m' < m ∧ W (i + 1) m' σ' H') ∧ ∀ x H', (Ieu K a).yld i H x H' → g x σ H' fun σ2 H2 => tb { D with nx := N, ct := N, bk := D.nx } σ2 H2))) := by
  rcases hr with h | h
  · exact .inl ⟨⟨_, seqL_at (keep 0 _ _ h0) h⟩, for_enL (K := K) (a := a) (xs := xs) Pv h0 (fun i σ' H' _ p => seqL_at (keep i σ' H' p) h) hs hd⟩
  · exact .inr ⟨⟨_, seqT_at (keep 0 _ _ h0) h⟩, for_enT (K := K) (a := a) (xs := xs) Pv h0 (fun i σ' H' _ p => seqT_at (keep i σ' H' p) h) hs hd⟩
/-! ### a op1 b op2 c op3 d -/
def tChain3 (r r' r'' : R2) (ta tb tc td : TE) : TE := fun σ H Q => ta σ H fun x H1 => tb σ H1 fun y H2 => r x y H2 fun z H3 => ∃ k, z = .bl k ∧
  (if k = true then tc σ H3 fun w' H4 => r' y w' H4 fun z' H5 => ∃ k', z' = .bl k' ∧ (if k' = true then td σ H5 fun w'' H6 => r'' w' w'' H6 Q else Q (.bl false) H5) else Q (.bl false) H3)
section
variable {X : Cx} {a b c d : Expr} {ta tb tc td : TE} {pos : Pos}
theorem pt_chain3 {op op' op'' : CmpOp} {r r' r'' : R2} (ho : OpR X (compareOp op) r) (ho' : OpR X (compareOp op') r') (ho'' : OpR X (compareOp op'') r'') (ha : PE X a ta) (hb : PE X b tb) (hc : PE X c tc) (hd : PE X d td)
    (hm : lastMarks [op, op', op''] [b, c, d] = false := by with_unfolding_all rfl) : PT X (.Compare a [op, op', op''] [b, c, d] pos) (tTest (tChain3 r r' r'' ta tb tc td)) := by
  refine ⟨fun pins s σ H Q I h => ?_⟩
  refine isTrue_chain (thn (ha.run pins s σ H _ I h) fun v s1 ⟨x, H1, I1, r1, q1⟩ => test_link (thn (hb.run pins s1 σ H1 _ I1 q1) fun u s2 ⟨y, H2, I2, r2, q2⟩ =>
    thn (ho pins s2 σ H2 x y v u _ I2 r1 r2 q2) fun d s3 ⟨z, H3, I3, r3, k, e, q3⟩ => ?_)) hm
  subst e
  cases r3
  refine wpAny_truthy_bool ?_
  cases k with
  | false =>
    obtain ⟨k', e', q'⟩ := q3
    cases e'
    exact ite_ff ⟨H3, I3, q'⟩
  | true =>
    refine ite_tt (test_link (thn (hc.run pins s3 σ H3 _ I3 q3) fun w' s4 ⟨z', H4, I4, r4, q4⟩ => thn (ho' pins s4 σ H4 y z' u w' _ I4 r2 r4 q4) fun d' s5 ⟨z2, H5, I5, r5, k2, e2, q5⟩ => ?_))
    subst e2
    cases r5
    refine wpAny_truthy_bool ?_
    cases k2 with
    | false =>
      obtain ⟨k', e', q'⟩ := q5
      cases e'
      exact ite_ff ⟨H5, I5, q'⟩
    | true =>
      refine ite_tt (test_last (thn (hd.run pins s5 σ H5 _ I5 q5) fun w3 s6 ⟨z3, H6, I6, r6, q6⟩ => thn (ho'' pins s6 σ H6 z' z3 w' w3 _ I6 r4 r6 q6) fun d3 s7 ⟨z4, H7, I7, r7, k3, e3, q7⟩ => ?_))
      subst e3
      cases r7
      exact wpAny_truthy_bool ⟨H7, I7, q7⟩
end
end G3

set_option Elab.async false
set_option linter.all false
set_option maxRecDepth 100000
set_option maxHeartbeats 2000000
namespace G3
open PySem PySem.Spec PyProof.Rows L2
section
variable {P : Program} {w : World} {K : PySem.W.Frag} {mg : Str → Option Value} {base : Heap}
abbrev n_is_whole : List Str := ["value"]
abbrev p_is_whole : List Str := ["value"]
theorem sc_is_whole : FnScope n_is_whole p_is_whole (defScope s_is_whole) := ⟨rfl, rfl, rfl, by decide +kernel, rfl, by decide +kernel, by decide +kernel⟩
abbrev n_edge_fault : List Str := ["edge", "n", "place"]
abbrev p_edge_fault : List Str := ["edge", "n"]
theorem sc_edge_fault : FnScope n_edge_fault p_edge_fault (defScope s_edge_fault) := ⟨rfl, rfl, rfl, by decide +kernel, rfl, by decide +kernel, by decide +kernel⟩
theorem ok_is_whole {x : Str} (D : DefAt K mg x "is_whole" s_is_whole) (B : Bt mg) : Has P w K mg base CX0 1 x p_is_whole (spIsI K) := by
  refine has_of D sc_is_whole (fun _ _ _ _ _ _ us hl => match us, hl with | [_], _ => rfl) (fun vs H Q E h => ?_) (fun f cdv A outer s H vs Q E hr h => ?_)
  · obtain ⟨x, d, rfl, _⟩ := h
    rfl
  · obtain ⟨x, d, rfl, hd, q⟩ := h
    refine ⟨_, (pss_one (ps_ret (pe_and (pe_callB (isiK (K := K) rfl) rfl B.isinstance (by decide +kernel) (pa_cons (pv 0) (pa_cons (pe_bltn (v := .ty "int") (u := .type "int") rfl B.int (by decide +kernel) rfl) pa_nil))) (pe_one (pe_not (pe_callB (isiK (K := K) rfl) rfl B.isinstance (by decide +kernel) (pa_cons (pv 0) (pa_cons (pe_bltn (v := .ty "bool") (u := .type "bool") rfl B.bool (by decide +kernel) rfl) pa_nil)))))))), ?_⟩
    have ty := Dp.ty hd
    refine ⟨_, rfl, _, _, _, _, _, rfl, .ty _, ty, kt_int d, _, rfl, ?_⟩
    cases hd with
    | non => exact iteF q
    | bl b => exact iteT ⟨_, rfl, _, _, _, _, _, rfl, .ty _, ty, kt_bool _, _, rfl, q⟩
    | int i => exact iteT ⟨_, rfl, _, _, _, _, _, rfl, .ty _, ty, kt_bool _, _, rfl, q⟩
    | str x => exact iteF q
    | lst _ _ => exact iteF q
    | tup _ _ => exact iteF q
def spEdgeFault : Sp := fun vs H Q _ => ∃ (e : Addr) (a b n : Nat), vs = [.ref e, nV n] ∧ H e = some (.tup [nV a, nV b]) ∧ a < b ∧ b < n ∧ ∀ H', Same H H' → Q .non H'
theorem ok_edge_fault (D : DefAt K mg "edge_fault" "edge_fault" s_edge_fault) (B : Bt mg) (h_is_whole_graphs : Has P w K mg base CX0 1 "is_whole_graphs" p_is_whole (spIsI K)) : Has P w K mg base CX0 2 "edge_fault" p_edge_fault spEdgeFault := by
  refine has_of D sc_edge_fault (fun _ _ _ _ _ _ us hl => match us, hl with | [_, _], _ => rfl) (fun vs H Q E h => ?_) (fun f cdv A outer s H vs Q E hr h => ?_)
  · obtain ⟨e, a, b, n, rfl, _⟩ := h
    rfl
  · obtain ⟨e, a, b, n, rfl, he, hab, hbn, q⟩ := h
    refine ⟨_, (pss_cons (ps_if (PW.pt (pw_or (pt_not (pt_val (pe_callB (isiTK (K := K) rfl) rfl B.isinstance (by decide +kernel) (pa_cons (pv 0) (pa_cons (pe_tup (pa_cons (pe_bltn (v := .ty "tuple") (u := .type "tuple") rfl B.tuple (by decide +kernel) rfl) (pa_cons (pe_bltn (v := .ty "list") (u := .type "list") rfl B.list (by decide +kernel) rfl) pa_nil))) pa_nil))))) (pw_or (pt_cmpR op_ne (pe_callB (lenK (K := K) rfl) rfl B.len PySem.boot_len (pa_cons (pv 0) pa_nil)) pe_int (nomark _)) (pw_or1 (pt_not (pt_val (pe_callB (allK (K := K) rfl rfl) rfl B.all (by decide +kernel) (pa_cons (pe_lc (own := [("place", 2)]) (g := gName 2) (tt := tYes) rfl sc_edge_fault.nd (piT (K := K) rfl (pv 0)) (blkOk_by (N := n_edge_fault) (sc := defScope s_edge_fault) (by decide +kernel)) (fun _ _ _ _ _ => (pg_name (i := 2) sc_edge_fault.nd rfl (.inl rfl))) (fun _ _ _ _ _ => pts_nil) (fun _ _ _ _ _ => (pe_h h_is_whole_graphs hr pass0 (pa_cons (pv 2) pa_nil)))) pa_nil)))))))) (pss_one (ps_ret pe_str)) pss_nil)
  (pss_one (ps_ret (pe_ifExp (pt_chain3 op_le op_lt op_lt pe_int (pe_ix (ixT (K := K) rfl) (pv 0) pe_int (fun _ _ => rfl)) (pe_ix (ixT (K := K) rfl) (pv 0) pe_int (fun _ _ => rfl)) (pv 1)) pe_non pe_str)))), ?_⟩
    refine ⟨_, rfl, by show 2 ≤ sizeLine; decide, fun tp ntp => ?_⟩
    have s1 : Same H (upd H tp (.tup [.ty "tuple", .ty "list"])) := same_upd ntp
    generalize hH1 : upd H tp (.tup [.ty "tuple", .ty "list"]) = H1 at s1
    have htp : H1 tp = some (.tup [.ty "tuple", .ty "list"]) := by rw [← hH1]; exact upd_same
    have he1 := s1 _ _ he
    refine ⟨_, tp, _, _, _, true, rfl, htp, .cons (.ty _) (.cons (.ty _) .nil), ty_t (SqT.of he1), kt_tl (.tuple []), _, rfl, iteF ?_⟩
    refine ⟨_, rfl, _, 2, rfl, .inr ⟨_, SqT.of he1, rfl⟩, rfl, _, rfl, ifN (fun e => absurd rfl e) fun _ => ?_⟩
    refine ⟨_, rfl, e, rfl, ⟨_, SqT.of he1⟩, fun L nL => ?_⟩
    refine lc_tup (K := K) (a := e) (xs := [nV a, nV b]) (fun i H2 => Same H1 H2 ∧ H2 L = some (.lst ((List.replicate i true).map V.bl))) ⟨same_upd nL, upd_same⟩ (fun i H2 _ p => SqT.of (p.1 _ _ he1)) ?_ ?_
    · rintro i x H2 hx ⟨sm, hl⟩
      have hi : i < 2 := (List.getElem?_eq_some_iff.mp hx).1
      have hv : ∃ j : Nat, x = nV j := by
        match i, hx, hi with
        | 0, hx, _ => exact ⟨a, (Option.some.inj hx).symm⟩
        | 1, hx, _ => exact ⟨b, (Option.some.inj hx).symm⟩
      obtain ⟨j, rfl⟩ := hv
      refine ⟨rfl, yes_ ?_⟩
      refine ⟨_, rfl, _, _, rfl, .int _, _, hl, size_lt (by rw [len_rep]; omega), same_mut sm nL, ?_⟩
      rw [upd_same, List.replicate_succ', List.map_append]; rfl
    · rintro H2 ⟨sm, hl⟩
      refine ⟨_, _, rfl, SqL.of hl, _, rfl, ?_⟩
      rw [all_rep]
      refine iteF ?_
      have s2 := s1.trans sm
      have he2 := s2 _ _ he
      refine ⟨_, rfl, _, _, 0, nV a, rfl, rfl, SqT.of he2, rfl, _, _, rfl, rfl, _, rfl, ifD (fun _ => ?_) (fun h => absurd (Int.natCast_nonneg a) h)⟩
      refine ⟨_, rfl, _, _, 1, nV b, rfl, rfl, SqT.of he2, rfl, _, _, rfl, rfl, _, rfl, ifD (fun _ => ?_) (fun h => absurd (by omega) h)⟩
      refine ⟨_, rfl, _, _, rfl, rfl, _, rfl, ifD (fun _ => ?_) (fun h => absurd (by omega) h)⟩
      exact q _ s2
end
end G3

set_option Elab.async false
set_option linter.all false
set_option maxRecDepth 100000
set_option maxHeartbeats 2000000
namespace G3
open PySem PySem.Spec PyProof.Rows L2
/-! ## places that are together -/
def adj (ps : List Pr) (v : Nat) : List Nat := ps.flatMap fun e => (if e.1 = v then [e.2] else []) ++ (if e.2 = v then [e.1] else [])
theorem mem_adj {ps : List Pr} {v u : Nat} : u ∈ adj ps v ↔ ∃ e ∈ ps, (e.1 = v ∧ e.2 = u) ∨ (e.2 = v ∧ e.1 = u) := by
  unfold adj
  rw [List.mem_flatMap]
  constructor
  · rintro ⟨e, he, h⟩
    refine ⟨e, he, ?_⟩
    rcases List.mem_append.mp h with h | h
    · by_cases c : e.1 = v
      · rw [if_pos c] at h; exact .inl ⟨c, (List.mem_singleton.mp h).symm⟩
      · rw [if_neg c] at h; cases h
    · by_cases c : e.2 = v
      · rw [if_pos c] at h; exact .inr ⟨c, (List.mem_singleton.mp h).symm⟩
      · rw [if_neg c] at h; cases h
  · rintro ⟨e, he, h⟩
    refine ⟨e, he, List.mem_append.mpr ?_⟩
    rcases h with ⟨h1, h2⟩ | ⟨h1, h2⟩
    · exact .inl (by rw [if_pos h1]; exact List.mem_singleton.mpr h2.symm)
    · exact .inr (by rw [if_pos h1]; exact List.mem_singleton.mpr h2.symm)
theorem adj_app {ps qs : List Pr} {v : Nat} : adj (ps ++ qs) v = adj ps v ++ adj qs v := by
  unfold adj; rw [List.flatMap_append]
theorem adj_one {e : Pr} {v : Nat} : adj [e] v = (if e.1 = v then [e.2] else []) ++ (if e.2 = v then [e.1] else []) := by
  unfold adj; simp
theorem adj_le {ps : List Pr} {v : Nat} : (adj ps v).length ≤ 2 * ps.length := by
  induction ps with
  | nil => exact Nat.le_refl 0
  | cons e r ih =>
    have : adj (e :: r) v = adj [e] v ++ adj r v := adj_app (ps := [e])
    rw [this, List.length_append, adj_one, List.length_append, List.length_cons]
    have h1 : (if e.1 = v then [e.2] else []).length ≤ 1 := by split <;> simp
    have h2 : (if e.2 = v then [e.1] else []).length ≤ 1 := by split <;> simp
    omega
def Reach (ps : List Pr) (s i : Nat) : Prop := ∀ f : Nat → Bool, (∀ e ∈ ps, f e.1 = f e.2) → f i = f s
theorem Reach.refl {ps : List Pr} {s : Nat} : Reach ps s s := fun _ _ => rfl
theorem Reach.step {ps : List Pr} {s v u : Nat} (h : Reach ps s v) (hu : u ∈ adj ps v) : Reach ps s u := fun f hf => by
  rw [← h f hf]
  obtain ⟨e, he, h | h⟩ := mem_adj.mp hu
  · rw [← h.1, ← h.2]; exact (hf e he).symm
  · rw [← h.1, ← h.2]; exact hf e he
theorem closed_reach {ps : List Pr} {n s : Nat} {F : List Bool} (hb : ∀ e ∈ ps, e.1 < n ∧ e.2 < n) (hs : F[s]? = some true) (hc : ∀ v, F[v]? = some true → ∀ u ∈ adj ps v, F[u]? = some true) {i : Nat} (h : Reach ps s i) : F[i]? = some true := by
  have e := h (fun j => F[j]? == some true) fun e he => by
    show (F[e.1]? == some true) = (F[e.2]? == some true)
    by_cases c : F[e.1]? = some true
    · rw [c, hc _ c _ (mem_adj.mpr ⟨e, he, .inl ⟨rfl, rfl⟩⟩)]
    · by_cases c2 : F[e.2]? = some true
      · exact absurd (hc _ c2 _ (mem_adj.mpr ⟨e, he, .inr ⟨rfl, rfl⟩⟩)) c
      · rw [beq_eq_false_iff_ne.mpr c, beq_eq_false_iff_ne.mpr c2]
  have e2 : (F[i]? == some true) = (F[s]? == some true) := e
  rw [hs] at e2
  exact beq_iff_eq.mp (e2.trans rfl)
/-- one more place found -/
theorem count_set_true {F : List Bool} {u : Nat} (h : F[u]? = some false) : (F.set u true).count false + 1 = F.count false := by
  obtain ⟨hl, e⟩ := List.getElem?_eq_some_iff.mp h
  have h1 : 0 < F.count false := List.count_pos_iff.mpr (e ▸ List.getElem_mem hl)
  rw [List.count_set hl, e]
  simp
  omega
/-- what is found while row v is gone through -/
structure Seek (ps : List Pr) (n s : Nat) (F : List Bool) (W : List Nat) (ex : Nat → Nat → Prop) : Prop where
  len : F.length = n
  at0 : F[s]? = some true
  inW : ∀ w ∈ W, F[w]? = some true
  re : ∀ v, F[v]? = some true → Reach ps s v
  closed : ∀ v, F[v]? = some true → v ∉ W → ∀ u ∈ adj ps v, F[u]? = some true ∨ ex v u
theorem Seek.new {ps : List Pr} {n s u v : Nat} {F : List Bool} {W : List Nat} {ex : Nat → Nat → Prop} (h : Seek ps n s F W ex) (hv : F[v]? = some true) (hu : u ∈ adj ps v) (hF : F[u]? = some false) :
    Seek ps n s (F.set u true) (W ++ [u]) ex := by
  have keep : ∀ x, F[x]? = some true → (F.set u true)[x]? = some true := fun x hx => by
    by_cases c : u = x
    · subst c; rw [hF] at hx; cases hx
    · rw [List.getElem?_set_ne c]; exact hx
  have hl := (List.getElem?_eq_some_iff.mp hF).1
  have back : ∀ x, (F.set u true)[x]? = some true → x = u ∨ F[x]? = some true := fun x hx => by
    by_cases c : u = x
    · exact .inl c.symm
    · rw [List.getElem?_set_ne c] at hx; exact .inr hx
  refine ⟨by rw [List.length_set]; exact h.len, keep _ h.at0, fun w hw => ?_, fun x hx => ?_, fun x hx hxW y hy => ?_⟩
  · rcases List.mem_append.mp hw with hw | hw
    · exact keep _ (h.inW w hw)
    · rw [List.mem_singleton.mp hw, List.getElem?_set_self hl]
  · rcases back x hx with rfl | hx
    · exact (h.re v hv).step hu
    · exact h.re x hx
  · rcases back x hx with rfl | hx
    · exact absurd (List.mem_append.mpr (.inr (List.mem_singleton.mpr rfl))) hxW
    · exact (h.closed x hx (fun z => hxW (List.mem_append.mpr (.inl z))) y hy).imp (keep y) id
theorem Seek.done {ps : List Pr} {n s : Nat} {F : List Bool} {ex : Nat → Nat → Prop} (h : Seek ps n s F [] ex) (hex : ∀ v u, ¬ ex v u) (hb : ∀ e ∈ ps, e.1 < n ∧ e.2 < n) (i : Nat) : F[i]? = some true ↔ Reach ps s i :=
  ⟨h.re i, fun r => closed_reach hb h.at0 (fun v hv u hu => (h.closed v hv (List.not_mem_nil) u hu).elim id fun z => (hex _ _ z).elim) r⟩
theorem Seek.pop {ps : List Pr} {n s v : Nat} {F : List Bool} {W : List Nat} (h : Seek ps n s F (W ++ [v]) fun _ _ => False) : F[v]? = some true ∧ Seek ps n s F W fun x u => x = v ∧ u ∈ (adj ps v).drop 0 := by
  refine ⟨h.inW v (List.mem_append.mpr (.inr (List.mem_singleton.mpr rfl))), h.len, h.at0, fun w hw => h.inW w (List.mem_append.mpr (.inl hw)), h.re, fun x hx hxW u hu => ?_⟩
  by_cases c : x = v
  · exact .inr ⟨c, by rw [List.drop_zero, ← c]; exact hu⟩
  · refine (h.closed x hx (fun z => ?_) u hu).imp id fun f => f.elim
    rcases List.mem_append.mp z with z | z
    · exact hxW z
    · exact c (List.mem_singleton.mp z)
theorem Seek.next {ps : List Pr} {n s v j u : Nat} {F : List Bool} {W : List Nat} (h : Seek ps n s F W fun x u => x = v ∧ u ∈ (adj ps v).drop j) (hj : (adj ps v)[j]? = some u) (hu : F[u]? = some true) :
    Seek ps n s F W fun x u => x = v ∧ u ∈ (adj ps v).drop (j + 1) := by
  refine ⟨h.len, h.at0, h.inW, h.re, fun x hx hxW y hy => ?_⟩
  rcases h.closed x hx hxW y hy with z | ⟨z1, z2⟩
  · exact .inl z
  · obtain ⟨hl, e⟩ := List.getElem?_eq_some_iff.mp hj
    rw [List.drop_eq_getElem_cons hl, e] at z2
    rcases List.mem_cons.mp z2 with rfl | z2
    · exact .inl hu
    · exact .inr ⟨z1, z2⟩
theorem Seek.last {ps : List Pr} {n s v : Nat} {F : List Bool} {W : List Nat} (h : Seek ps n s F W fun x u => x = v ∧ u ∈ (adj ps v).drop (adj ps v).length) : Seek ps n s F W fun _ _ => False :=
  ⟨h.len, h.at0, h.inW, h.re, fun x hx hxW y hy => (h.closed x hx hxW y hy).imp id fun z => by rw [List.drop_length] at z; cases z.2⟩
/-- what of H stands but for what stood at no time before -/
def But (X : Addr → Prop) (H H' : Hp) : Prop := ∀ b o, ¬ X b → H b = some o → H' b = some o
theorem But.trans {X : Addr → Prop} {H H1 H2 : Hp} (a : But X H H1) (b : But X H1 H2) : But X H H2 := fun c o n e => b c o n (a c o n e)
theorem But.refl {X : Addr → Prop} {H : Hp} : But X H H := fun _ _ _ e => e
theorem But.mut {X : Addr → Prop} {H : Hp} {p : Addr} {o : HO} (h : X p) : But X H (upd H p o) := fun b u n e => by
  have c : b ≠ p := fun z => n (z ▸ h)
  rw [upd_ne c]; exact e
theorem Same.but {X : Addr → Prop} {H H' : Hp} (h : Same H H') : But X H H' := fun b o _ e => h b o e
theorem But.same {X : Addr → Prop} {H0 H H' : Hp} (h : But X H H') (s : Same H0 H) (hx : ∀ b, X b → H0 b = none) : Same H0 H' := fun b o e => by
  refine h b o (fun z => ?_) (s b o e)
  rw [hx b z] at e; cases e
/-- a list of things apart, c i the i-th -/
def Rows (H : Hp) (B : Addr) (as : List Addr) (c : Nat → HO) : Prop := H B = some (.lst (as.map V.ref)) ∧ as.Nodup ∧ ∀ i a, as[i]? = some a → a ≠ B ∧ H a = some (c i)
theorem rows_get {as : List Addr} {i : Nat} (h : i < as.length) : (as.map V.ref)[i]? = some (.ref as[i]) := getMap h
theorem Rows.nil {H : Hp} {B : Addr} {c : Nat → HO} : Rows (upd H B (.lst [])) B [] c := ⟨upd_same, List.nodup_nil, fun _ _ h => nomatch h⟩
theorem Rows.but {X : Addr → Prop} {H H' : Hp} {B : Addr} {as : List Addr} {c : Nat → HO} (h : Rows H B as c) (e : But X H H') (hB : ¬ X B) (ha : ∀ a ∈ as, ¬ X a) : Rows H' B as c :=
  ⟨e _ _ hB h.1, h.2.1, fun i a z => ⟨(h.2.2 i a z).1, e _ _ (ha a (List.mem_of_getElem? z)) (h.2.2 i a z).2⟩⟩
theorem Rows.same {H H' : Hp} {B : Addr} {as : List Addr} {c : Nat → HO} (h : Rows H B as c) (e : Same H H') : Rows H' B as c :=
  ⟨e _ _ h.1, h.2.1, fun i a z => ⟨(h.2.2 i a z).1, e _ _ (h.2.2 i a z).2⟩⟩
theorem Rows.push {H : Hp} {B a : Addr} {as : List Addr} {c : Nat → HO} {o : HO} (h : Rows H B as c) (na : H a = none) (ho : o = c as.length) :
    (upd H a o) B = some (.lst (as.map V.ref)) ∧ Rows (upd (upd H a o) B (.lst (as.map V.ref ++ [.ref a]))) B (as ++ [a]) c := by
  obtain ⟨r1, r2, r3⟩ := h
  have nab : B ≠ a := fun z => by rw [← z, r1] at na; cases na
  refine ⟨by rw [upd_ne nab]; exact r1, by rw [upd_same, List.map_append]; rfl, ?_, fun i x hx => ?_⟩
  · refine List.nodup_append.mpr ⟨r2, List.nodup_cons.mpr ⟨List.not_mem_nil, List.nodup_nil⟩, fun x hx y hy e => ?_⟩
    rw [List.mem_singleton.mp hy] at e
    obtain ⟨i, hi, z⟩ := List.getElem_of_mem hx
    have := (r3 i x (by rw [List.getElem?_eq_getElem hi, z])).2
    rw [e, na] at this; cases this
  · by_cases hi : i < as.length
    · rw [List.getElem?_append_left hi] at hx
      obtain ⟨h1, h2⟩ := r3 i x hx
      have nxa : x ≠ a := fun z => by rw [z, na] at h2; cases h2
      exact ⟨h1, by rw [upd_ne h1, upd_ne nxa]; exact h2⟩
    · have hl := (List.getElem?_eq_some_iff.mp hx).1
      rw [List.length_append] at hl
      have : i = as.length := by simp at hl; omega
      subst this
      rw [List.getElem?_append_right (Nat.le_refl _)] at hx
      have : x = a := by simpa using hx.symm
      subst this
      exact ⟨fun z => nab z.symm, by rw [upd_ne (fun z => nab z.symm), upd_same, ho]⟩
theorem Rows.set {H : Hp} {B a : Addr} {as : List Addr} {c : Nat → HO} {o : HO} {k : Nat} (h : Rows H B as c) (hk : as[k]? = some a) : Rows (upd H a o) B as (fun i => if i = k then o else c i) := by
  obtain ⟨r1, r2, r3⟩ := h
  have hb := (r3 k a hk).1
  refine ⟨by rw [upd_ne hb.symm]; exact r1, r2, fun i x hx => ⟨(r3 i x hx).1, ?_⟩⟩
  by_cases c1 : i = k
  · subst c1
    rw [hk] at hx
    obtain rfl := Option.some.inj hx
    show _ = some (if i = i then o else c i)
    rw [if_pos rfl, upd_same]
  · have : x ≠ a := fun z => by
      subst z
      obtain ⟨l1, e1⟩ := List.getElem?_eq_some_iff.mp hk
      obtain ⟨l2, e2⟩ := List.getElem?_eq_some_iff.mp hx
      exact c1 ((List.getElem_inj r2).mp (e2.trans e1.symm))
    show _ = some (if i = k then o else c i)
    rw [if_neg c1, upd_ne this]
    exact (r3 i x hx).2
theorem Rows.to {H : Hp} {B : Addr} {as : List Addr} {c c' : Nat → HO} (h : Rows H B as c) (e : ∀ i, i < as.length → c i = c' i) : Rows H B as c' :=
  ⟨h.1, h.2.1, fun i a z => ⟨(h.2.2 i a z).1, by rw [← e i (List.getElem?_eq_some_iff.mp z).1]; exact (h.2.2 i a z).2⟩⟩
theorem Rows.at {H : Hp} {B : Addr} {as : List Addr} {c : Nat → HO} (h : Rows H B as c) {i : Nat} (hi : i < as.length) : as[i] ≠ B ∧ H as[i] = some (c i) := h.2.2 i _ (List.getElem?_eq_getElem hi)
section
variable {P : Program} {w : World} {K : PySem.W.Frag} {mg : Str → Option Value} {base : Heap}
abbrev n_together : List Str := ["n", "pairs", "start", "found", "beside", "one", "other", "waiting", "place"]
abbrev p_together : List Str := ["n", "pairs", "start"]
theorem sc_together : FnScope n_together p_together (defScope s_together) := ⟨rfl, rfl, rfl, by decide +kernel, rfl, by decide +kernel, by decide +kernel⟩
def spTogether (K : PySem.W.Frag) : Sp := fun vs H Q _ => ∃ (n s : Nat) (p : Addr) (ws : List V) (ps : List Pr), vs = [nV n, .ref p, nV s] ∧ (SqL K H p ws ∨ SqT K H p ws) ∧ Prs H ws ps ∧ (∀ e ∈ ps, e.1 < n ∧ e.2 < n) ∧ s < n ∧ n ≤ 10000 ∧ ps.length ≤ 10000 ∧
  ∀ (H' : Hp) (L : Addr) (F : List Bool), Same H H' → H L = none → H' L = some (.lst (F.map V.bl)) → F.length = n → (∀ i, F[i]? = some true ↔ Reach ps s i) → Q (.ref L) H'
theorem ok_together (D : DefAt K mg "together" "together" s_together) (B : Bt mg) : Has P w K mg base CX0 1 "together" p_together (spTogether K) := by
  refine has_of D sc_together (fun _ _ _ _ _ _ us hl => match us, hl with | [_, _, _], _ => rfl) (fun vs H Q E h => ?_) (fun f cdv A outer s H vs Q E hr h => ?_)
  · obtain ⟨n, s, p, ws, ps, rfl, _⟩ := h
    rfl
  · obtain ⟨n, s, p, ws, ps, rfl, hp, hps, hb, hsn, hn, hl, q⟩ := h
    refine ⟨_, (pss_cons (ps_setLc (i := 3) (own := [("place", 8)]) (g := gName 8) (tt := tYes) rfl sc_together.nd rfl rfl (sw_true rfl rfl rfl (by decide +kernel)) (pi_range1 rfl B.range (pa_cons (pv 0) pa_nil)) (blkOk_by (N := n_together) (sc := defScope s_together) (by decide +kernel)) (fun _ _ _ _ _ => (pg_name (i := 8) sc_together.nd rfl (.inl rfl))) (fun _ _ _ _ _ => pts_nil) (fun _ _ _ _ _ => (pe_cmpR op_eq (pv 8) (pv 2) (nomark _))))
  (pss_cons (ps_setLc (i := 4) (own := [("place", 8)]) (g := gName 8) (tt := tYes) rfl sc_together.nd rfl rfl (sw_true rfl rfl rfl (by decide +kernel)) (pi_range1 rfl B.range (pa_cons (pv 0) pa_nil)) (blkOk_by (N := n_together) (sc := defScope s_together) (by decide +kernel)) (fun _ _ _ _ _ => (pg_name (i := 8) sc_together.nd rfl (.inl rfl))) (fun _ _ _ _ _ => pts_nil) (fun _ _ _ _ _ => (pe_lst pa_nil)))
  (Evl.pss_cut (ps_for PassesOwn.never rfl (pi_row (K := K) rfl (pv 1)) (pgT (K := K) (n := 2) rfl rfl (pgs_cons (pg_name (i := 5) sc_together.nd rfl (.inl rfl)) (pgs_cons (pg_name (i := 6) sc_together.nd rfl (.inl rfl)) pgs_nil))) (pss_cons (ps_expr (pe_bm PySem.F.plainAttrs_list PySem.F.slot_list_append PySem.F.type_list_append mt_append (pe_ix (ixL (K := K) rfl) (pv 4) (pv 5) (fun _ _ => rfl)) (pa_cons (pv 6) pa_nil)))
  (pss_one (ps_expr (pe_bm PySem.F.plainAttrs_list PySem.F.slot_list_append PySem.F.type_list_append mt_append (pe_ix (ixL (K := K) rfl) (pv 4) (pv 6) (fun _ _ => rfl)) (pa_cons (pv 5) pa_nil))))))
  (pss_cons (ps_set (i := 7) sc_together.nd rfl (.inl rfl) (pe_lst (pa_cons (pv 2) pa_nil)))
  (pss_cons (ps_while PassesOwn.never (pt_truth (pv 7) (by intro _; rfl)) (pss_one (ps_for PassesOwn.never rfl (piL (K := K) rfl (pe_ix (ixL (K := K) rfl) (pv 4) (pe_bm0 PySem.F.plainAttrs_list PySem.F.slot_list_pop PySem.F.type_list_pop mt_pop (pv 7)) (fun _ _ => rfl))) (pg_name (i := 6) sc_together.nd rfl (.inl rfl)) (pss_one (ps_if (pt_not (pt_val (pe_ix (ixL (K := K) rfl) (pv 3) (pv 6) (fun _ _ => rfl)))) (pss_cons (ps_asg pe_bl (pg_sub (pv 3) (pv 6) set_list))
  (pss_one (ps_expr (pe_bm PySem.F.plainAttrs_list PySem.F.slot_list_append PySem.F.type_list_append mt_append (pv 7) (pa_cons (pv 6) pa_nil))))) pss_nil)))))
  (pss_one (ps_ret (pv 3)))))))), ?_⟩
    -- found
    refine ⟨_, rfl, _, rfl, by omega, by omega, fun F0 nF => ?_⟩
    refine lc_range (lo := 0) (n := n) (fun i H2 => Same H H2 ∧ H2 F0 = some (.lst (((List.range i).map fun k => decide (k = s)).map V.bl))) ⟨same_upd nF, upd_same⟩ ?_ ?_
    · rintro i H2 hi ⟨sm, hF⟩
      refine ⟨rfl, yes_ ?_⟩
      refine ⟨_, rfl, _, rfl, rfl, _, hF, size_lt (by rw [List.length_map, List.length_map, List.length_range]; omega), same_mut sm nF, ?_⟩
      rw [upd_same, List.range_succ, List.map_append, List.map_append]
      have e : decide (V.int (0 + (i : Int)) = nV s) = decide (i = s) := decide_eq_decide.mpr ⟨fun h => by injection h with h; omega, fun h => by rw [h]; exact congrArg V.int (by omega)⟩
      rw [e]; rfl
    rintro H1 ⟨sm1, hF⟩
    -- beside
    refine ⟨_, rfl, _, rfl, by omega, by omega, fun B0 nB => ?_⟩
    refine lc_range (lo := 0) (n := n) (fun i H2 => Same H1 H2 ∧ ∃ as, as.length = i ∧ Rows H2 B0 as (fun _ => .lst []) ∧ ∀ a ∈ as, H1 a = none) ⟨same_upd nB, [], rfl, Rows.nil, fun a h => nomatch h⟩ ?_ ?_
    · rintro i H2 hi ⟨sm, as, las, ro, fr⟩
      refine ⟨rfl, yes_ ?_⟩
      refine ⟨by show 0 ≤ sizeLine; decide, fun a na => ?_⟩
      obtain ⟨p1, p2⟩ := ro.push (o := .lst []) na rfl
      refine ⟨_, p1, size_lt (by rw [List.length_map]; omega), same_mut (sm.trans (same_upd na)) nB, as ++ [a], by rw [List.length_append, las]; rfl, p2, fun x hx => ?_⟩
      rcases List.mem_append.mp hx with hx | hx
      · exact fr x hx
      · rw [List.mem_singleton.mp hx]; exact sm.free na
    rintro H2 ⟨sm2, as, las, ro, fr⟩
    -- the rows
    have notAs : ∀ x o, H x = some o → ¬ x ∈ as := fun x o e z => by
      have := fr x z
      rw [sm1 _ _ e] at this; cases this
    have s12 : Same H H2 := sm1.trans sm2
    refine ⟨fun σ H' => ∃ (y z : Option V), σ = [some (nV n), some (.ref p), some (nV s), some (.ref F0), some (.ref B0), y, z, none, none] ∧ But (· ∈ as) H2 H' ∧ Rows H' B0 as (fun v => .lst ((adj ps v).map nV)), ?_, ?_⟩
    · refine ⟨_, rfl, p, rfl, ?_⟩
      refine for_row (K := K) (a := p) (xs := ws) (H0 := H) hp (fun i σ H' => ∃ (y z : Option V), σ = [some (nV n), some (.ref p), some (nV s), some (.ref F0), some (.ref B0), y, z, none, none] ∧ But (· ∈ as) H2 H' ∧ Rows H' B0 as (fun v => .lst ((adj (ps.take i) v).map nV))) ?_ ?_ ?_ ?_
      · exact ⟨none, none, rfl, But.refl, ro.to fun i _ => rfl⟩
      · rintro i σ' H' ⟨y, z, rfl, bt, _⟩ o ho
        exact bt _ _ (notAs _ _ ho) (s12 _ _ ho)
      · rintro i x σ' H' hx ⟨y, z, rfl, bt, ro'⟩
        have hi : i < ps.length := by rw [← hps.len]; exact (List.getElem?_eq_some_iff.mp hx).1
        obtain ⟨t, e1, e2⟩ := hps.get hi
        rw [hx] at e1
        obtain rfl := Option.some.inj e1
        obtain ⟨b1, b2⟩ := hb _ (List.getElem_mem hi)
        generalize he : ps[i] = e at e2 b1 b2
        obtain ⟨a, b⟩ := e
        have ht : H' t = some (.tup [nV a, nV b]) := bt _ _ (notAs _ _ e2) (s12 _ _ e2)
        refine ⟨t, _, rfl, SqT.of ht, rfl, _, _, rfl, _, _, rfl, rfl, ?_⟩
        have la : a < as.length := by omega
        have lb : b < as.length := by omega
        have hal := adj_le (ps := ps.take i) (v := a)
        have hbl := adj_le (ps := ps.take i) (v := b)
        have htl : (ps.take i).length ≤ 10000 := by rw [List.length_take]; omega
        refine ⟨_, rfl, _, rfl, _, _, a, .ref as[a], rfl, rfl, SqL.of ro'.1, atI_nat (rows_get la), .inl ⟨rfl, _, SqL.of (ro'.at la).2⟩, _, rfl, _, _, _, rfl, rfl, (ro'.at la).2, size_lt (by rw [List.length_map]; omega), ?_⟩
        have r1 := ro'.set (o := .lst ((adj (ps.take i) a).map nV ++ [nV b])) (List.getElem?_eq_getElem la)
        have m1 : But (· ∈ as) H' (upd H' as[a] (.lst ((adj (ps.take i) a).map nV ++ [nV b]))) := But.mut (X := (· ∈ as)) (List.getElem_mem la)
        generalize upd H' as[a] (.lst ((adj (ps.take i) a).map nV ++ [nV b])) = H3 at r1 m1
        obtain ⟨l2, k2⟩ : ∃ l2, l2.length ≤ 20001 ∧ (if b = a then HO.lst ((adj (ps.take i) a).map nV ++ [nV b]) else .lst ((adj (ps.take i) b).map nV)) = .lst (l2.map nV) ∧ l2 ++ [a] = adj (ps.take (i + 1)) b := by
          rw [List.take_add_one, List.getElem?_eq_getElem hi, he]
          by_cases c : b = a
          · subst c
            refine ⟨adj (ps.take i) b ++ [b], ?_, ?_, ?_⟩
            · rw [List.length_append]; simp; omega
            · rw [if_pos rfl, List.map_append]; rfl
            · show _ = adj (ps.take i ++ [(b, b)]) b
              rw [adj_app, adj_one]; simp
          · refine ⟨adj (ps.take i) b, by omega, if_neg c, ?_⟩
            show _ = adj (ps.take i ++ [(a, b)]) b
            rw [adj_app, adj_one, if_neg (show ¬ (a, b).1 = b from fun z => c z.symm), if_pos rfl]
            rfl
        have hb3 := (r1.at lb).2
        rw [k2.2.1] at hb3
        refine ⟨_, rfl, _, rfl, _, _, b, .ref as[b], rfl, rfl, SqL.of r1.1, atI_nat (rows_get lb), .inl ⟨rfl, _, SqL.of hb3⟩, _, rfl, _, _, _, rfl, rfl, hb3, size_lt (by rw [List.length_map]; omega), ?_⟩
        refine ⟨_, _, rfl, (bt.trans m1).trans (But.mut (X := (· ∈ as)) (List.getElem_mem lb)), ?_⟩
        refine (r1.set (List.getElem?_eq_getElem lb)).to fun v hv => ?_
        show (if v = b then HO.lst (l2.map nV ++ [nV a]) else if v = a then HO.lst ((adj (ps.take i) a).map nV ++ [nV b]) else .lst ((adj (ps.take i) v).map nV)) = _
        by_cases c : v = b
        · subst c
          rw [if_pos rfl, ← k2.2.2, List.map_append]; rfl
        · rw [if_neg c, List.take_add_one, List.getElem?_eq_getElem hi, he]
          show _ = HO.lst ((adj (ps.take i ++ [(a, b)]) v).map nV)
          rw [adj_app, adj_one, if_neg (show ¬ (a, b).2 = v from fun z => c z.symm), List.append_nil, List.map_append]
          by_cases c2 : v = a
          · subst c2
            rw [if_pos rfl, if_pos rfl]; rfl
          · rw [if_neg c2, if_neg (show ¬ (a, b).1 = v from fun z => c2 z.symm)]
            simp
      · rintro σ' H' ⟨y, z, rfl, bt, rw'⟩
        rw [hps.len, List.take_length] at rw'
        exact ⟨_, _, rfl, bt, rw'⟩
    · rintro σ' H' ⟨y, z, rfl, bt, ro'⟩
      have frs : Same H H' := bt.same s12 fun x hx => sm1.free (fr x hx)
      have hF' : H' F0 = some (.lst (((List.range n).map fun k => decide (k = s)).map V.bl)) := bt _ _ (fun z => by have := fr _ z; rw [hF] at this; cases this) (sm2 _ _ hF)
      refine ⟨_, rfl, by show 1 ≤ sizeLine; decide, fun W0 nW => ?_⟩
      have nWF : W0 ≠ F0 := fun z => by rw [z, hF'] at nW; cases nW
      have ro3 := ro'.same (same_upd (o := .lst [nV s]) nW)
      have hF3 : (upd H' W0 (.lst [nV s])) F0 = some (.lst (((List.range n).map fun k => decide (k = s)).map V.bl)) := by rw [upd_ne nWF.symm]; exact hF'
      have hW3 : (upd H' W0 (.lst [nV s])) W0 = some (.lst [nV s]) := upd_same
      have s3 : Same H (upd H' W0 (.lst [nV s])) := frs.trans (same_upd nW)
      have nB0 : ¬ (B0 = F0 ∨ B0 = W0) := fun z => z.elim (fun z => by rw [z, hF] at nB; cases nB) fun z => by rw [← z, ro'.1] at nW; cases nW
      have nas : ∀ a ∈ as, ¬ (a = F0 ∨ a = W0) := fun a ha z => by
        rcases z with z | z
        · have := fr a ha
          rw [z, hF] at this; cases this
        · obtain ⟨k, hk, e⟩ := List.getElem_of_mem ha
          have := (ro'.at hk).2
          rw [e, z, nW] at this; cases this
      generalize upd H' W0 (.lst [nV s]) = H3 at ro3 hF3 hW3 s3 ⊢
      have nx : ∀ x, x = F0 ∨ x = W0 → H x = none := fun x hx => by
        rcases hx with rfl | rfl
        · exact nF
        · exact frs.free nW
      have cF : ∀ v, ((List.range n).map fun k => decide (k = s))[v]? = some true → v = s := fun v hv => by
        rw [List.getElem?_map] at hv
        by_cases c : v < n
        · rw [List.getElem?_range c] at hv
          exact of_decide_eq_true (Option.some.inj hv)
        · rw [List.getElem?_eq_none (by rw [List.length_range]; omega)] at hv
          cases hv
      have c0 : ((List.range n).map fun k => decide (k = s))[s]? = some true := by
        rw [List.getElem?_map, List.getElem?_range hsn]
        show some (decide (s = s)) = _
        rw [decide_eq_true rfl]
      have sk0 : Seek ps n s ((List.range n).map fun k => decide (k = s)) [s] (fun _ _ => False) :=
        ⟨by rw [List.length_map, List.length_range], c0, fun w hw => by rw [List.mem_singleton.mp hw]; exact c0, fun v hv => by rw [cF v hv]; exact Reach.refl, fun v hv nv => absurd (List.mem_singleton.mpr (cF v hv)) nv⟩
      have cl : ∀ F : List Bool, F.length = n → F.count false ≤ n := fun F e => e ▸ List.count_le_length
      refine ⟨fun m σ' H4 => ∃ (y z : Option V) (F : List Bool) (Wl : List Nat), σ' = [some (nV n), some (.ref p), some (nV s), some (.ref F0), some (.ref B0), y, z, some (.ref W0), none] ∧ But (fun x => x = F0 ∨ x = W0) H3 H4 ∧ H4 F0 = some (.lst (F.map V.bl)) ∧ H4 W0 = some (.lst (Wl.map nV)) ∧ Seek ps n s F Wl (fun _ _ => False) ∧ m = 2 * F.count false + Wl.length ∧ m ≤ 2 * n + 1, ⟨_, _, _, _, [s], rfl, But.refl, hF3, hW3, sk0, rfl, ?_⟩, ?_⟩
      · have := cl _ sk0.len
        show 2 * _ + 1 ≤ _
        omega
      rintro m σ' H4 ⟨y, z, F, Wl, rfl, b4, hF4, hW4, sk, em, hm⟩
      rcases List.eq_nil_or_concat Wl with rfl | ⟨W', v, rfl⟩
      · refine ⟨_, rfl, _, .inl ⟨_, SqL.of hW4, rfl⟩, ?_⟩
        exact iteF ⟨_, rfl, q _ _ _ (b4.same s3 nx) nF hF4 sk.len (sk.done (fun _ _ => id) hb)⟩
      · rw [List.concat_eq_append] at *
        obtain ⟨hv, sk1⟩ := sk.pop
        have hvn : v < n := by rw [← sk.len]; exact (List.getElem?_eq_some_iff.mp hv).1
        have hva : v < as.length := by omega
        have cF4 := cl F sk.len
        rw [List.length_append] at em
        have em : m = 2 * F.count false + (W'.length + 1) := em
        refine ⟨_, rfl, _, .inl ⟨_, SqL.of hW4, rfl⟩, ?_⟩
        rw [List.map_append]
        have ne : (!((W'.map nV) ++ [v].map nV).isEmpty) = true := by simp
        rw [ne]
        refine iteT ?_
        refine ⟨fun σ' H5 => ∃ m', m' < m ∧ ∃ (y z : Option V) (F : List Bool) (Wl : List Nat), σ' = [some (nV n), some (.ref p), some (nV s), some (.ref F0), some (.ref B0), y, z, some (.ref W0), none] ∧ But (fun x => x = F0 ∨ x = W0) H3 H5 ∧ H5 F0 = some (.lst (F.map V.bl)) ∧ H5 W0 = some (.lst (Wl.map nV)) ∧ Seek ps n s F Wl (fun _ _ => False) ∧ m' = 2 * F.count false + Wl.length ∧ m' ≤ 2 * n + 1, fun _ _ h => h, ?_⟩
        have roA := fun (H5 : Hp) (b5 : But (fun x => x = F0 ∨ x = W0) H3 H5) => ro3.but b5 nB0 nas
        refine ⟨_, rfl, _, rfl, .inl ⟨rfl, _, SqL.of hW4⟩, W0, _, nV v, rfl, rfl, hW4, ?_, ?_⟩
        · rw [List.map_append, List.length_append, List.length_map]
          simp
        have eW : ((W' ++ [v]).map nV).dropLast = W'.map nV := by rw [List.map_append]; simp
        rw [eW]
        have b5 : But (fun x => x = F0 ∨ x = W0) H3 (upd H4 W0 (.lst (W'.map nV))) := b4.trans (But.mut (X := fun x => x = F0 ∨ x = W0) (.inr rfl))
        have hF5 : (upd H4 W0 (.lst (W'.map nV))) F0 = some (.lst (F.map V.bl)) := by rw [upd_ne nWF.symm]; exact hF4
        have hW5 : (upd H4 W0 (.lst (W'.map nV))) W0 = some (.lst (W'.map nV)) := upd_same
        generalize upd H4 W0 (.lst (W'.map nV)) = H5 at b5 hF5 hW5 ⊢
        have ro5 := roA _ b5
        refine ⟨_, _, v, .ref as[v], rfl, rfl, SqL.of ro5.1, atI_nat (rows_get hva), as[v], rfl, ⟨_, SqL.of (ro5.at hva).2⟩, ?_⟩
        refine for_list (K := K) (a := as[v]) (xs := (adj ps v).map nV) (fun j σ' H6 => ∃ (y z : Option V) (F : List Bool) (Wl : List Nat), σ' = [some (nV n), some (.ref p), some (nV s), some (.ref F0), some (.ref B0), y, z, some (.ref W0), none] ∧ But (fun x => x = F0 ∨ x = W0) H3 H6 ∧ H6 F0 = some (.lst (F.map V.bl)) ∧ H6 W0 = some (.lst (Wl.map nV)) ∧ Seek ps n s F Wl (fun x u => x = v ∧ u ∈ (adj ps v).drop j) ∧ F[v]? = some true ∧ 2 * F.count false + Wl.length < m) ?_ ?_ ?_ ?_
        · exact ⟨_, _, _, _, rfl, b5, hF5, hW5, sk1, hv, by omega⟩
        · rintro j σ' H6 hj ⟨y, z, F, Wl, rfl, b6, _⟩
          exact SqL.of ((roA _ b6).at hva).2
        · rintro j x σ' H6 hx ⟨y, z, F, Wl, rfl, b6, hF6, hW6, sk6, hv6, hm6⟩
          rw [List.getElem?_map] at hx
          obtain ⟨u, hu, rfl⟩ := Option.map_eq_some_iff.mp hx
          have hua := List.mem_of_getElem? hu
          have hun : u < n := by
            obtain ⟨e, he, h | h⟩ := mem_adj.mp hua
            · rw [← h.2]; exact (hb e he).2
            · rw [← h.2]; exact (hb e he).1
          have hul : u < F.length := by rw [sk6.len]; exact hun
          have hFu : (F.map V.bl)[u]? = some (.bl F[u]) := getMap hul
          have hFu2 : F[u]? = some F[u] := List.getElem?_eq_getElem hul
          skip
          refine ⟨_, rfl, _, rfl, _, _, u, .bl F[u], rfl, rfl, SqL.of hF6, atI_nat hFu, _, rfl, ?_⟩
          cases hf : F[u] with
          | true =>
            rw [hf] at hFu2
            exact iteF ⟨_, _, F, Wl, rfl, b6, hF6, hW6, sk6.next hu hFu2, hv6, hm6⟩
          | false =>
            rw [hf] at hFu2
            have ct := count_set_true hFu2
            have sk7 := sk6.new hv6 hua hFu2
            refine iteT ⟨_, rfl, _, rfl, F0, _, u, u, rfl, rfl, hF6, Evl.ixN_nat (by rw [List.length_map]; exact hul), ?_⟩
            have hW7 : (upd H6 F0 (.lst ((F.map V.bl).set u (.bl true)))) W0 = some (.lst (Wl.map nV)) := by rw [upd_ne nWF]; exact hW6
            refine ⟨_, rfl, .inl ⟨rfl, _, SqL.of hW7⟩, _, rfl, W0, _, nV u, rfl, rfl, hW7, size_lt (by rw [List.length_map]; omega), ?_⟩
            refine ⟨_, _, F.set u true, Wl ++ [u], rfl, (b6.trans (But.mut (X := fun x => x = F0 ∨ x = W0) (.inl rfl))).trans (But.mut (X := fun x => x = F0 ∨ x = W0) (.inr rfl)), ?_, ?_, sk7.next hu (List.getElem?_set_self hul), ?_, ?_⟩
            · rw [upd_ne nWF.symm, upd_same, List.map_set]
            · rw [upd_same, List.map_append]; rfl
            · by_cases c : u = v
              · rw [c]; exact List.getElem?_set_self (c ▸ hul)
              · rw [List.getElem?_set_ne c]; exact hv6
            · rw [List.length_append]
              show 2 * _ + (_ + 1) < m
              omega
        · rintro σ' H6 ⟨y, z, F, Wl, rfl, b6, hF6, hW6, sk6, hv6, hm6⟩
          rw [List.length_map] at sk6
          exact ⟨_, hm6, _, _, _, _, rfl, b6, hF6, hW6, sk6.last, rfl, by omega⟩
end
end G3

set_option Elab.async false
set_option linter.all false
set_option maxRecDepth 100000
set_option maxHeartbeats 4000000
/-! sorted(d.items()) of a dict of ints with int keys; classes. -/
namespace L2.DX
open PySem PySem.Spec PyProof.Rows
abbrev entI (e : Int × Int) : L2.Key × V := (Sum.inl e.1, V.int e.2)
section
variable {X : Cx}
def rItemsK : V → List V → Hp → VK → Prop := fun x xs H Q => ∃ (a : Addr) (kvs : List (L2.Key × V)), x = .ref a ∧ xs = [] ∧ H a = some (.dK kvs) ∧ ∀ p, H p = none → Q (.ref p) (upd H p (itemsO p a))
theorem mt_itemsK : MtR X "dict.items" rItemsK := by
  intro pins s σ H x xs v us Q I rx rxs h
  obtain ⟨a, kvs, rfl, rfl, ha, q⟩ := h
  cases rx
  cases rxs
  obtain ⟨z, hd, vs, kv, o, es, ep, ho, hx, hdat, _⟩ := dk_of I.hok ha
  refine DT.callItems (es := es) (ep := ep) hd ⟨o, ho, hx, hdat⟩ ?_
  have hf : H s.heap.objs.size = none := I.hok.fresh (Nat.le_refl _)
  exact ⟨.ref s.heap.objs.size, upd H s.heap.objs.size (itemsO s.heap.objs.size a), I.laid (t' := s.toks) (fun b u e => Heap.get?_push_of_some _ e) (Nat.le_refl _) (itemsO_ok (Heap.get?_push_size _ rfl)), rfl, q _ hf⟩
/-- keys and values are ints -/
def rSortItI : List V → Hp → VK → Prop := fun vs H Q => ∃ (p a : Addr) (ks : List (Int × Int)), vs = [.ref p] ∧ H p = some (itemsO p a) ∧ H a = some (.dK (ks.map entI)) ∧
  ∀ (H' : Hp) (l : Addr) (zs : List (Addr × Int × Int)), (∀ b o, H b = some o → H' b = some o) → H l = none → (zs.map (·.2)).Perm ks → (zs.map (·.2)).Pairwise (fun e f => e.1 ≤ f.1) → H' l = some (.lst (zs.map fun z => V.ref z.1)) →
    (∀ z ∈ zs, H z.1 = none ∧ H' z.1 = some (.tup [.int z.2.1, .int z.2.2])) → Q (.ref l) H'
theorem pairs_ents {P : Program} {w : World} : ∀ {es : List DictEntry} {ks : List (Int × Int)} {vs : List (L2.Key × Value)}, Pairs (mixKind P w) es vs → KV (ks.map entI) vs → ∀ (j : Nat) (e : DictEntry), es[j]? = some e →
    ∃ (x : Int × Int) (t u : Tok), ks[j]? = some x ∧ e.key = .int x.1 t ∧ e.val = .int x.2 u
  | [], _, _, _, _, j, e, h => nomatch h
  | e0 :: es, [], _, hp, hk, j, e, h => by cases hk; cases hp
  | e0 :: es, k :: ks, _, hp, hk, j, e, h => by
    cases hp with
    | cons h1 h2 hp =>
      cases hk with
      | cons r hk =>
        cases j with
        | zero =>
          obtain rfl := Option.some.inj h
          obtain ⟨r1, r2⟩ := r
          have r1 : Sum.inl k.1 = _ := r1
          rw [← r1] at h1
          obtain ⟨t, ht⟩ : ∃ t, e0.key = .int k.1 t := Value.isInt_shape h1
          obtain ⟨u, hu⟩ := r2
          exact ⟨k, t, u, rfl, ht, h2.trans hu⟩
        | succ j => exact pairs_ents hp hk j e h
def pairK (h : Heap) : Value → Int × Int
  | .ref b => match h.get? b with
    | some o => match o.data with
      | .seq its _ => match its.toList with
        | [.int x _, .int y _] => (x, y)
        | _ => (0, 0)
      | _ => (0, 0)
    | none => (0, 0)
  | _ => (0, 0)
theorem cr_sortedItemsI (hc : X.calm = true) : CallR X (.builtin "sorted") rSortItI := by
  intro pins s σ H xs us Q I r h
  obtain ⟨p, a, ks, rfl, hp, ha, q⟩ := h
  obtain rfl := Vals.ref1 r
  have view : s.heap.IsItemsView p a := (show ObjOk X.prog X.w H s.heap p (itemsO p a) from I.hok p _ hp).1
  obtain ⟨z, hd, vs, kv, o, es, ep, ho, hx, hdat, hks, hprs, hnd⟩ := dk_of I.hok ha
  have l1 : (ks.map entI).length = vs.length := Paired.length kv
  rw [List.length_map] at l1 z
  have l2 : es.toList.length = vs.length := hprs.length
  have l2 : es.size = vs.length := by rw [← l2]; simp
  have hh : X.A.handled = none := I.ok.hd hc
  refine DT.sortedI (es := es) (ep := ep) hh view ⟨o, ho, hx, hdat⟩ (by omega) fun h' tk as hk hlt hl hG => ?_
  have lak : as.length = ks.length := by omega
  have nd : as.Nodup := List.Pairwise.imp (fun h => Nat.ne_of_lt h) hG.rise
  have pr : ∀ (j : Nat) (b : Addr), as[j]? = some b → ∃ (e : Int × Int) (t u : Tok), ks[j]? = some e ∧ h'.get? b = some { cls := .type "tuple", data := .seq #[.int e.1 t, .int e.2 u] } := by
    intro j b hj
    obtain ⟨en, he, hg⟩ := hG.pairs j b hj
    obtain ⟨x, t, u, h1, h2, h3⟩ := pairs_ents hprs kv j en (by rw [Array.getElem?_toList]; exact he)
    rw [h2, h3] at hg
    exact ⟨x, t, u, h1, hg⟩
  have hob : (h'.push { cls := .type "list", data := .seq (as.map Value.ref).toArray }).get? h'.objs.size = some (seqObj "list" (as.map Value.ref).toArray 0) := Heap.get?_push_size _ rfl
  have kb : ∀ b o, s.heap.get? b = some o → (h'.push { cls := .type "list", data := .seq (as.map Value.ref).toArray }).get? b = some o := fun b o e => Heap.get?_push_of_some _ (hk b o e)
  have ne0 : ∀ b o, h'.get? b = some o → b ≠ h'.objs.size := fun b o e => Nat.ne_of_lt (Heap.lt_size e)
  generalize hh2 : h'.push { cls := .type "list", data := .seq (as.map Value.ref).toArray } = h2 at hob kb ⊢
  have ka : ∀ b o, h'.get? b = some o → h2.get? b = some o := fun b o e => by rw [← hh2]; exact Heap.get?_push_of_some _ e
  have at_ : ∀ v ∈ as.map Value.ref, ∃ (j : Nat) (b : Addr) (e : Int × Int), v = .ref b ∧ as[j]? = some b ∧ ks[j]? = some e ∧ pairK h2 v = e ∧ Srt.IsPair h2 v e.1 e.2 := by
    intro v hv'
    obtain ⟨b, hb, rfl⟩ := List.mem_map.mp hv'
    obtain ⟨j, hj⟩ := List.mem_iff_getElem?.mp hb
    obtain ⟨e, t, u, he, hg⟩ := pr j b hj
    have hg2 := ka _ _ hg
    exact ⟨j, b, e, rfl, hj, he, by simp only [pairK, hg2], b, _, t, u, _, rfl, hg2, rfl, rfl⟩
  have hsz : (as.map Value.ref).length ≤ sizeLine := by rw [List.length_map]; omega
  refine wpAny_call_entry PyProof.Rows.slot_list_sort ⟨_, hob, rfl⟩ PyProof.Rows.entry_list_sort
    (SrtO.list_sort_ord (s := { s with heap := h2, toks := tk }) (SrtO.swo_lex (pairK h2)) hob hsz (fun h2' => ?_) fun out o1 o2 => ⟨.none, rfl, ?_⟩) (PyProof.Rows.args_list_sort _)
  · refine SrtO.pairs_sortableO (s := { s with heap := h2, toks := tk }) (by omega) (fun v hv' => ?_) fun o e => ?_
    · obtain ⟨j, b, e, rfl, _, _, ek, hp'⟩ := at_ v hv'
      rw [ek]; exact hp'
    · have e' : some o = some (seqObj "list" (as.map Value.ref).toArray 0) := e.symm.trans hob
      cases e'
      intro c
      exact absurd (Value.type.inj c) (by decide)
  · show EP X pins σ Q (.ref h'.objs.size) { s with heap := sortedHeap h2 h'.objs.size (as.map Value.ref) out.toArray, toks := tk }
    obtain ⟨zs, pz, ez⟩ := perm_lift (fun z : Addr × Int × Int => Value.ref z.1) o2.perm (as.zip ks) (by
      have : (as.zip ks).map (fun z : Addr × Int × Int => Value.ref z.1) = ((as.zip ks).map Prod.fst).map Value.ref := by rw [List.map_map]; rfl
      rw [this, List.map_fst_zip (by omega)])
    have idx : ∀ z ∈ zs, ∃ j : Nat, as[j]? = some z.1 ∧ ks[j]? = some z.2 := by
      intro z' hz'
      obtain ⟨j, hj⟩ := List.mem_iff_getElem?.mp (pz.mem_iff.mp hz')
      exact ⟨j, List.getElem?_zip_eq_some.mp hj⟩
    have hperm : (zs.map (·.2)).Perm ks := by
      have e := pz.map (·.2)
      have m2 : (as.zip ks).map (·.2) = ks := List.map_snd_zip (by rw [lak]; exact Nat.le_refl _)
      rw [m2] at e
      exact e
    have hkz : ∀ z ∈ zs, pairK h2 (.ref z.1) = z.2 := by
      intro z' hz'
      obtain ⟨j, j1, j2⟩ := idx z' hz'
      obtain ⟨i, b, e, eb, i1, i2, ek, _⟩ := at_ (.ref z'.1) (List.mem_map.mpr ⟨_, List.mem_of_getElem? j1, rfl⟩)
      injection eb with eb
      rw [← eb] at i1
      have eij : i = j := (List.getElem?_inj (List.getElem?_eq_some_iff.mp i1).1 nd).mp (i1.trans j1.symm)
      subst eij
      exact ek.trans (Option.some.inj (i2.symm.trans j2))
    have hsort : (zs.map (·.2)).Pairwise (fun e f => e.1 ≤ f.1) := by
      have o1' : out.Pairwise _ := o1
      rw [← ez, List.pairwise_map] at o1'
      rw [List.pairwise_map]
      refine List.Pairwise.imp_of_mem (fun {x y} hx hy h => ?_) o1'
      have h := SrtO.lexB_no.mp h
      rw [hkz x hx, hkz y hy] at h
      show x.2.1 ≤ y.2.1
      omega
    have kF : ∀ b o, b ≠ h'.objs.size → h2.get? b = some o → (sortedHeap h2 h'.objs.size (as.map Value.ref) out.toArray).get? b = some o := fun b o hb e => (PyProof.Rows.sortedHeap_old hb (Heap.lt_size e)).trans e
    have kS : ∀ b o, s.heap.get? b = some o → (sortedHeap h2 h'.objs.size (as.map Value.ref) out.toArray).get? b = some o := fun b o e => kF b o (ne0 _ _ (hk b o e)) (kb b o e)
    obtain ⟨eF, heF⟩ := PyProof.Rows.sortedHeap_at (vs := as.map Value.ref) (out := out.toArray) hob
    have I1 : Inv X pins σ H { s with heap := sortedHeap h2 h'.objs.size (as.map Value.ref) out.toArray, toks := tk } := I.kept (t' := tk) kS
    have hn0 : H h'.objs.size = none := I.hok.fresh (Nat.le_of_lt hlt)
    have hlen : (zs.map fun z => V.ref z.1).length ≤ sizeLine := by
      have e := hperm.length_eq
      rw [List.length_map] at e
      rw [List.length_map]
      omega
    have rv : Vals (zs.map fun z => V.ref z.1) out.toArray.toList := by
      rw [List.toList_toArray, ← ez]
      exact vals_maps (fun z : Addr × Int × Int => V.ref z.1) (fun z => Value.ref z.1) zs fun _ _ => rfl
    have I2 : Inv X pins σ (upd H h'.objs.size (.lst (zs.map fun z => V.ref z.1))) { s with heap := sortedHeap h2 h'.objs.size (as.map Value.ref) out.toArray, toks := tk } :=
      I1.take (h' := sortedHeap h2 h'.objs.size (as.map Value.ref) out.toArray) (t' := tk) (fun b ob _ e => e) (I.fpOk (Nat.le_of_lt hlt) hn0) ⟨hlen, out.toArray.toList, eF, rv, heF⟩
    obtain ⟨H2, I3, g, qt⟩ := takeT (P := fun b vs => ∃ (j : Nat) (e : Int × Int), as[j]? = some b ∧ ks[j]? = some e ∧ vs = [.int e.1, .int e.2] ∧ H b = none) I as _ I2 nd fun b hb => by
      obtain ⟨j, hj⟩ := List.mem_iff_getElem?.mp hb
      obtain ⟨e, t, u, he, hg⟩ := pr j b hj
      have hbl : s.heap.objs.size ≤ b := Nat.le_of_lt (hG.above b hb)
      refine ⟨hbl, ?_, [.int e.1, .int e.2], ⟨j, e, hj, he, rfl, I.hok.fresh hbl⟩, fun H3 => ⟨(by rw [sizeLine_eq]; show 2 ≤ 16777216; omega), [Value.int e.1 t, Value.int e.2 u], .cons ⟨_, rfl⟩ (.cons ⟨_, rfl⟩ .nil), ⟨_, kF _ _ (ne0 _ _ hg) (ka _ _ hg), rfl, 0, rfl⟩⟩⟩
      rw [upd_ne (ne0 _ _ hg)]
      exact I.hok.fresh hbl
    have gr : ∀ b o, H b = some o → H2 b = some o := fun b o e => g b o (by rw [upd_ne (ne_of_none e hn0)]; exact e)
    refine ⟨.ref h'.objs.size, H2, I3, rfl, q H2 h'.objs.size zs gr hn0 hperm hsort (g _ _ upd_same) fun z' hz' => ?_⟩
    obtain ⟨i, i1, i2⟩ := idx z' hz'
    obtain ⟨vs, ⟨j, e, j1, j2, ev, hn⟩, hH⟩ := qt z'.1 (List.mem_of_getElem? i1)
    have eij : i = j := (List.getElem?_inj (List.getElem?_eq_some_iff.mp i1).1 nd).mp (i1.trans j1.symm)
    subst eij
    have ee : e = z'.2 := Option.some.inj (j2.symm.trans i2)
    rw [ev, ee] at hH
    exact ⟨hn, hH⟩
end
end L2.DX

namespace G3
open PySem PySem.Spec PyProof.Rows L2
/-! ### classes -/
def MkAt (K : PySem.W.Frag) (mg : Str → Option Value) (x : Str) (C : Addr) (nm qn : Str) (st : Stmt) : Prop := ∃ f fd, Fun K nm qn st f fd ∧ Mk K C f ∧ mg x = some (.ref C)
def HasMk (P : Program) (w : World) (K : PySem.W.Frag) (mg : Str → Option Value) (base : Heap) (CX : CXT) (k : Nat) (x : Str) (C : Addr) (ps : List Str) (sp : Sp) : Prop :=
  ∃ f fd, FnOk P w K mg base CX k f fd ps sp ∧ Mk K C f ∧ mg x = some (.ref C) ∧ Binds K fd ps []
section
variable {P : Program} {w : World} {K : PySem.W.Frag} {mg : Str → Option Value} {base : Heap} {k : Nat} {x : Str} {C : Addr} {ps : List Str} {sp : Sp}
theorem hasMk_of {nm qn : Str} {st : Stmt} {N : List Str} (D : MkAt K mg x C nm qn st) (S : FnScope N ps (defScope st))
    (hb : ∀ (kV doc pm : Value) (an : Option Addr) (cdv ct : Value) (us : List Value), us.length = ps.length → bindArgs (PySem.W.fnOf nm qn (defArgs st) (defBody st) (defScope st) .none kV doc pm an cdv ct) ⟨us, []⟩ = pure (ps.zip us))
    (len : ∀ vs H Q E, sp vs H Q E → vs.length = ps.length)
    (hbody : ∀ (f : Addr) (cdv : Value) (A : Around) (outer : List Env) (s : Shared) (H : Hp) (vs : List V) (Q : VK) (E : XK), Room k (A.deeper (envOfC qn (defScope st) s.heap.objs.size f cdv)) → sp vs H Q E →
      ∃ t, PSs (cxOf CX0 P w K mg base N qn (defScope st) f cdv A outer s H E).nox (defBody st) t ∧ t { nx := fun _ H' => Q .non H', rt := Q } (start N vs) H) : HasMk P w K mg base CX0 (k + 1) x C ps sp := by
  obtain ⟨f, fd, F, M, m⟩ := D
  exact ⟨f, fd, F.ok S len (fun cdv A outer s H vs Q E hr hs => hbody f cdv A outer s H vs Q E hr hs), M, m, F.binds hb⟩
end
theorem pe_makeH {X : Cx} {CX : CXT} {k j : Nat} {x : Str} {C : Addr} {ps : List Str} {sp : Sp} {E : XK} {p pos : Pos} {e : Expr} {es : List Expr} {t : TA} (h : HasMk X.prog X.w X.K X.mg X.base CX k x C ps sp) (hr : Room j X.A) (hx : Passes CX X E)
    (ha : PA X (e :: es) t) (hk : k + 1 ≤ j := by first | decide | omega) (hg : Gl X x := by rfl) (hdb : (x == ("__debug__" : Str)) = false := by decide) (he : starEach (e :: es) X.env = (false, eval e X.env) :: starEach es X.env := by rfl) (hpl : (backTo pos (starEach es X.env)).any (·.1) = false := by rfl) :
    PE X (.Call (.Name x p) (e :: es) [] pos) (tMake C sp [] E t) := by
  obtain ⟨f, fd, F, M, m, b⟩ := h
  exact pe_make M F (hr.mono hk) hg m b .nil hx ha hdb he hpl
theorem sortPK {X : Cx} {K : PySem.W.Frag} (h : X.K = K) : CallR X (.builtin "sorted") (rSortedPO K) := h ▸ cr_sortedPO
theorem bm0N {X : Cx} {K : PySem.W.Frag} (hK : X.K = K) {o : Expr} {to : TE} {name : Str} {apos cpos : Pos} {T id : String} {r : V → List V → Hp → VK → Prop} (pa : PlainAttrs T) (slot : Slot T name id) (hty : typeOf (.builtin id) = pure (.type "method_descriptor")) (hm : MtR X id r) (ho : PE X o to)
    (hbase : attributeBase o name X.env (eval o X.env) = eval o X.env := by rfl) (hline : (apos.endLine == cpos.line) = true := by rfl) : PE X (.Call (.Attribute o name apos) [] [] cpos) (tBM0 K T r to) := by
  subst hK
  exact pe_bm0 pa slot hty hm ho hbase hline
end G3

set_option Elab.async false
set_option linter.all false
set_option maxRecDepth 100000
set_option maxHeartbeats 2000000
namespace G3
open PySem PySem.Spec PyProof.Rows L2
/-! ## Graph -/
structure GraphC (K : PySem.W.Frag) (C : Addr) : Prop where
  cls : Cls K C
  n : NoAttr K C "n"
  edges : NoAttr K C "edges"
  genus : NoAttr K C "genus"
  kept : NoAttr K C "kept"
/-- a graph object: its places, its edges in order, its dict of what is kept -/
def GrAt (H : Hp) (C g : Addr) (n : Nat) (es : List Pr) (kd : Addr) : Prop := ∃ (dx eT : Addr) (vs : List V), H g = some (.ins C dx [("n", nV n), ("edges", .ref eT), ("genus", .int ((es.length : Int) - n + 1)), ("kept", .ref kd)]) ∧ H eT = some (.tup vs) ∧ Prs H vs es
theorem GrAt.but {X : Addr → Prop} {H H' : Hp} {C g kd : Addr} {n : Nat} {es : List Pr} (h : GrAt H C g n es kd) (e : But X H H') (hg : ¬ X g) (ht : ∀ t xs, H t = some (.tup xs) → ¬ X t) : GrAt H' C g n es kd := by
  obtain ⟨dx, eT, vs, h1, h2, h3⟩ := h
  exact ⟨dx, eT, vs, e _ _ hg h1, e _ _ (ht _ _ h2) h2, h3.mono fun t a b z => e _ _ (ht _ _ z) z⟩
theorem GrAt.same {H H' : Hp} {C g kd : Addr} {n : Nat} {es : List Pr} (h : GrAt H C g n es kd) (e : Same H H') : GrAt H' C g n es kd :=
  h.but (X := fun _ => False) (Same.but e) id fun _ _ _ => id
theorem Good.reach {n : Nat} {es : List Pr} (h : Good n es) {i : Nat} (hi : i < n) : Reach es 0 i := fun f hf => h.2 f hf i hi
def Lex (es : List Pr) : Prop := es.Pairwise fun a b => a.1 < b.1 ∨ a.1 = b.1 ∧ a.2 ≤ b.2
/-- the pair at a value -/
def prI (H : Hp) : V → Int × Int
  | .ref t => match H t with
    | some (.tup [.int a, .int b]) => (a, b)
    | _ => (0, 0)
  | _ => (0, 0)
def prN (H : Hp) (v : V) : Pr := ((prI H v).1.toNat, (prI H v).2.toNat)
theorem prI_of {H : Hp} {t : Addr} {a b : Nat} (h : H t = some (.tup [nV a, nV b])) : prI H (.ref t) = ((a : Int), (b : Int)) := by
  have h : H t = some (.tup [.int a, .int b]) := h
  simp only [prI, h]
theorem prN_of {H : Hp} {t : Addr} {a b : Nat} (h : H t = some (.tup [nV a, nV b])) : prN H (.ref t) = (a, b) := by
  unfold prN; rw [prI_of h]; rfl
theorem Prs.eq {H : Hp} : ∀ {vs : List V} {ps : List Pr}, Prs H vs ps → ps = vs.map (prN H)
  | [], [], _ => rfl
  | v :: vs, p :: ps, ⟨⟨t, h1, h2⟩, h⟩ => by rw [List.map_cons, ← Prs.eq h, h1, prN_of h2]
  | [], _ :: _, h => h.elim
  | _ :: _, [], h => h.elim
theorem Prs.mem {H : Hp} : ∀ {vs : List V} {ps : List Pr}, Prs H vs ps → ∀ v ∈ vs, ∃ t a b, v = .ref t ∧ H t = some (.tup [nV a, nV b])
  | v :: vs, p :: ps, ⟨⟨t, h1, h2⟩, h⟩, u, hu => by
    rcases List.mem_cons.mp hu with rfl | hu
    · exact ⟨t, _, _, h1, h2⟩
    · exact Prs.mem h u hu
  | [], [], _, _, hu => nomatch hu
  | [], _ :: _, h, _, _ => h.elim
  | _ :: _, [], h, _, _ => h.elim
theorem prs_of {H : Hp} : ∀ {vs : List V}, (∀ v ∈ vs, ∃ t a b, v = .ref t ∧ H t = some (.tup [nV a, nV b])) → Prs H vs (vs.map (prN H))
  | [], _ => True.intro
  | v :: vs, h => by
    obtain ⟨t, a, b, e1, e2⟩ := h v (List.mem_cons_self ..)
    subst e1
    exact ⟨⟨t, rfl, by rw [prN_of e2]; exact e2⟩, prs_of fun u hu => h u (List.mem_cons_of_mem _ hu)⟩
section
variable {P : Program} {w : World} {K : PySem.W.Frag} {mg : Str → Option Value} {base : Heap} {C : Addr}
abbrev n_Graph___init__ : List Str := ["self", "n", "edges", "number", "edge", "reason", "near", "place"]
abbrev p_Graph___init__ : List Str := ["self", "n", "edges"]
theorem sc_Graph___init__ : FnScope n_Graph___init__ p_Graph___init__ (defScope s_Graph___init__) := ⟨rfl, rfl, rfl, by decide +kernel, rfl, by decide +kernel, by decide +kernel⟩
def spGInit (C : Addr) : Sp := fun vs H Q _ => ∃ (x dx l : Addr) (n : Nat) (ws : List V) (es : List Pr), vs = [.ref x, nV n, .ref l] ∧ H x = some (.ins C dx []) ∧ H l = some (.lst ws) ∧ Prs H ws es ∧ Good n es ∧ 1 ≤ n ∧ n ≤ 64 ∧ es.length ≤ 400 ∧
  ∀ (H' : Hp) (es' : List Pr) (kd : Addr), But (· = x) H H' → GrAt H' C x n es' kd → es'.Perm es → Lex es' → H kd = none → H' kd = some (.dK []) → Q .non H'
theorem ok_Graph (D : MkAt K mg "Graph" C "__init__" "Graph.__init__" s_Graph___init__) (B : Bt mg) (G : GraphC K C) (h_is_whole_graphs : Has P w K mg base CX0 1 "is_whole_graphs" p_is_whole (spIsI K))
    (h_edge_fault : Has P w K mg base CX0 2 "edge_fault" p_edge_fault spEdgeFault) (h_together : Has P w K mg base CX0 1 "together" p_together (spTogether K)) (i64 : ∃ t, mg "MOST_PLACES" = some (.int 64 t)) (i400 : ∃ t, mg "MOST_EDGES" = some (.int 400 t)) :
    HasMk P w K mg base CX0 3 "Graph" C p_Graph___init__ (spGInit C) := by
  refine hasMk_of D sc_Graph___init__ (fun _ _ _ _ _ _ us hl => match us, hl with | [_, _, _], _ => rfl) (fun vs H Q E h => ?_) (fun f cdv A outer s H vs Q E hr h => ?_)
  · obtain ⟨x, dx, l, n, ws, es, rfl, _⟩ := h
    rfl
  · obtain ⟨x, dx, l, n, ws, es, rfl, hx, hl, hws, good, hn1, hn64, he4, q⟩ := h
    refine ⟨_, (pss_cons (ps_if (PW.pt (pw_or (pt_not (pt_val (pe_h h_is_whole_graphs hr pass0 (pa_cons (pv 1) pa_nil)))) (pw_or1 (pt_not (pt_chain op_le op_le pe_int (pv 1) (pe_gint i64)))))) (pss_one ps_never) pss_nil)
  (pss_cons (ps_if (PW.pt (pw_or (pt_not (pt_val (pe_callB (isiTK (K := K) rfl) rfl B.isinstance (by decide +kernel) (pa_cons (pv 2) (pa_cons (pe_tup (pa_cons (pe_bltn (v := .ty "tuple") (u := .type "tuple") rfl B.tuple (by decide +kernel) rfl) (pa_cons (pe_bltn (v := .ty "list") (u := .type "list") rfl B.list (by decide +kernel) rfl) pa_nil))) pa_nil))))) (pw_or1 (pt_cmpR op_gt (pe_callB (lenK (K := K) rfl) rfl B.len PySem.boot_len (pa_cons (pv 2) pa_nil)) (pe_gint i400) (nomark _))))) (pss_one ps_never) pss_nil)
  (pss_cons (ps_for PassesOwn.never rfl (pi_enum rfl B.enumerate (pa_cons (pv 2) pa_nil)) (pgT (K := K) (n := 2) rfl rfl (pgs_cons (pg_name (i := 3) sc_Graph___init__.nd rfl (.inl rfl)) (pgs_cons (pg_name (i := 4) sc_Graph___init__.nd rfl (.inl rfl)) pgs_nil))) (pss_cons (ps_set (i := 5) sc_Graph___init__.nd rfl (.inl rfl) (pe_h h_edge_fault hr pass0 (pa_cons (pv 4) (pa_cons (pv 1) pa_nil))))
  (pss_one (ps_if (pt_cmpR op_notN (pv 5) pe_non (nomark _)) (pss_one ps_never) pss_nil))))
  (pss_cons (ps_fld (pv 0) (pv 1) rfl)
  (pss_cons (ps_fld (pv 0) (pe_callTy (tupK (K := K) rfl) rfl B.tuple (by decide +kernel) (pa_cons (pe_callB (sortPK (K := K) rfl) rfl B.sorted (by decide +kernel) (pa_cons (pe_lc (own := [("edge", 4)]) (g := gName 4) (tt := tYes) rfl sc_Graph___init__.nd (piL (K := K) rfl (pv 2)) (blkOk_by (N := n_Graph___init__) (sc := defScope s_Graph___init__) (by decide +kernel)) (fun _ _ _ _ _ => (pg_name (i := 4) sc_Graph___init__.nd rfl (.inl rfl))) (fun _ _ _ _ _ => pts_nil) (fun _ _ _ _ _ => (pe_callTy (tupK (K := K) rfl) rfl B.tuple (by decide +kernel) (pa_cons (pv 4) pa_nil)))) pa_nil)) pa_nil)) rfl)
  (pss_cons (ps_set (i := 6) sc_Graph___init__.nd rfl (.inl rfl) (pe_h h_together hr pass0 (pa_cons (pv 1) (pa_cons (fldK (K := K) rfl (pv 0) rfl) (pa_cons pe_int pa_nil)))))
  (pss_cons (ps_for PassesOwn.never rfl (pi_range1 rfl B.range (pa_cons (pv 1) pa_nil)) (pg_name (i := 7) sc_Graph___init__.nd rfl (.inl rfl)) (pss_one (ps_if (pt_not (pt_val (pe_ix (ixL (K := K) rfl) (pv 6) (pv 7) (fun _ _ => rfl)))) (pss_one ps_never) pss_nil)))
  (pss_cons (ps_fld (pv 0) (pe_op op_add (pe_op op_sub (pe_callB (lenK (K := K) rfl) rfl B.len PySem.boot_len (pa_cons (fldK (K := K) rfl (pv 0) rfl) pa_nil)) (pv 1)) pe_int) rfl)
  (pss_one (ps_fld (pv 0) (pe_dnewK) rfl)))))))))), ?_⟩
    refine ⟨_, rfl, _, _, rfl, .int _, _, rfl, iteF ?_⟩
    refine ⟨_, rfl, _, _, rfl, rfl, _, rfl, ifD (fun _ => ?_) (fun h => absurd (by omega) h)⟩
    refine ⟨_, _, rfl, rfl, _, rfl, ifN (fun h => absurd (by omega) h) (fun _ => ?_)⟩
    -- edges
    refine ⟨_, rfl, by show 2 ≤ sizeLine; decide, fun tp ntp => ?_⟩
    have s1 : Same H (upd H tp (.tup [.ty "tuple", .ty "list"])) := same_upd ntp
    generalize hH1 : upd H tp (.tup [.ty "tuple", .ty "list"]) = H1 at s1
    have htp : H1 tp = some (.tup [.ty "tuple", .ty "list"]) := by rw [← hH1]; exact upd_same
    have hl1 := s1 _ _ hl
    refine ⟨_, tp, _, _, _, true, rfl, htp, .cons (.ty _) (.cons (.ty _) .nil), ty_l (SqL.of hl1), kt_tl (.list []), _, rfl, iteF ?_⟩
    have hlen := hws.len
    refine ⟨_, rfl, _, ws.length, rfl, .inl ⟨_, SqL.of hl1, rfl⟩, _, _, rfl, rfl, _, rfl, ifD (fun h => absurd h (by omega)) fun _ => ?_⟩
    -- for number, edge
    refine ⟨_, rfl, l, ws, rfl, SqL.of hl1, ?_⟩
    refine for_enL (K := K) (a := l) (xs := ws) (fun i σ H' => ∃ (y z u : Option V), σ = [some (.ref x), some (nV n), some (.ref l), y, z, u, none, none] ∧ Same H H') ⟨none, none, none, rfl, s1⟩ (fun i σ H' _ p => by obtain ⟨_, _, _, _, sm⟩ := p; exact SqL.of (sm _ _ hl)) ?_ ?_
    · rintro i v T σ H2 hv ⟨y, z, u, rfl, sm⟩ nT
      have hi : i < es.length := by rw [← hlen]; exact (List.getElem?_eq_some_iff.mp hv).1
      obtain ⟨t, e1, e2⟩ := hws.get hi
      rw [hv] at e1
      obtain rfl := Option.some.inj e1
      obtain ⟨g1, g2⟩ := good.1 _ (List.getElem_mem hi)
      have sT : Same H2 (upd H2 T (.tup [.int (i : Nat), .ref t])) := same_upd nT
      refine ⟨T, _, rfl, SqT.of upd_same, rfl, _, _, rfl, _, _, rfl, rfl, ?_⟩
      refine ⟨_, rfl, _, rfl, t, _, _, n, rfl, sT _ _ (sm _ _ e2), g1, g2, fun H3 sm3 => ?_⟩
      refine ⟨_, rfl, rfl, _, rfl, iteF ?_⟩
      exact ⟨_, _, _, rfl, (sm.trans sT).trans sm3⟩
    rintro σ H2 ⟨y, z0, u, rfl, sm2⟩
    -- self.n
    refine ⟨_, rfl, _, rfl, x, C, dx, [], rfl, sm2 _ _ hx, G.cls, G.n, by decide, ?_⟩
    have hx2 := sm2 _ _ hx
    have b3 : But (· = x) H (upd H2 x (.ins C dx [("n", nV n)])) := (Same.but sm2).trans (But.mut (X := (· = x)) rfl)
    have hx3 : (upd H2 x (.ins C dx [("n", nV n)])) x = some (.ins C dx [("n", nV n)]) := upd_same
    show tSeq _ _ _ _ (upd H2 x (.ins C dx [("n", nV n)]))
    generalize upd H2 x (.ins C dx [("n", nV n)]) = H3 at b3 hx3 ⊢
    have nl : ¬ l = x := fun z => by rw [z, hx] at hl; cases hl
    have nt : ∀ t xs, H t = some (.tup xs) → ¬ t = x := fun t xs e z => by rw [z, hx] at e; cases e
    -- self.edges
    refine ⟨_, rfl, l, rfl, ⟨_, SqL.of (b3 _ _ nl hl)⟩, fun L nL => ?_⟩
    refine lc_list (K := K) (a := l) (xs := ws) (fun i H4 => Same H3 H4 ∧ H4 L = some (.lst (ws.take i))) ⟨same_upd nL, upd_same⟩ (fun i H4 _ p => SqL.of (p.1 _ _ (b3 _ _ nl hl))) ?_ ?_
    · rintro i v H4 hv ⟨sm, hL⟩
      have hi : i < es.length := by rw [← hlen]; exact (List.getElem?_eq_some_iff.mp hv).1
      obtain ⟨t, e1, e2⟩ := hws.get hi
      rw [hv] at e1
      obtain rfl := Option.some.inj e1
      refine ⟨rfl, yes_ ?_⟩
      refine ⟨_, rfl, t, _, rfl, .inr ⟨SqT.of (sm _ _ (b3 _ _ (nt _ _ e2) e2)), ?_⟩⟩
      refine ⟨_, hL, size_lt (by rw [List.length_take]; omega), same_mut sm nL, ?_⟩
      rw [upd_same, List.take_add_one, hv]; rfl
    rintro H4 ⟨sm4, hL⟩
    rw [List.take_length] at hL
    have b4 : But (· = x) H H4 := b3.trans (Same.but sm4)
    have hx4 := sm4 _ _ hx3
    have hws4 : Prs H4 ws es := hws.mono fun t a b e => b4 _ _ (nt _ _ e) e
    refine ⟨L, ws, prI H4, rfl, SqL.of hL, fun v hv => ?_, fun ys p hs hb np => ?_⟩
    · obtain ⟨t, a, b, e1, e2⟩ := hws4.mem v hv
      subst e1
      exact ⟨t, rfl, by rw [prI_of e2]; exact e2⟩
    have lys : ys.length = es.length := by rw [hb.perm.length_eq, hlen]
    refine ⟨p, ys, rfl, .inl ⟨SqL.of upd_same, fun eT nT => ?_⟩⟩
    have s6 : Same H4 (upd (upd H4 p (.lst ys)) eT (.tup ys)) := (same_upd np).trans (same_upd nT)
    have heT : (upd (upd H4 p (.lst ys)) eT (.tup ys)) eT = some (.tup ys) := upd_same
    generalize upd (upd H4 p (.lst ys)) eT (.tup ys) = H6 at s6 heT ⊢
    have hx6 := s6 _ _ hx4
    have b6 : But (· = x) H H6 := b4.trans (Same.but s6)
    have hys6 : Prs H6 ys (ys.map (prN H4)) := (prs_of fun v hv => by
      obtain ⟨t, a, b, e1, e2⟩ := hws4.mem v (hb.perm.mem_iff.mp hv)
      exact ⟨t, a, b, e1, e2⟩ : Prs H4 ys (ys.map (prN H4))).same s6
    have hperm : (ys.map (prN H4)).Perm es := by
      rw [hws4.eq]; exact hb.perm.map _
    have hlex : Lex (ys.map (prN H4)) := by
      refine List.pairwise_map.mpr (List.Pairwise.imp_of_mem (fun {a b} ha hb' h => ?_) hs)
      have h := SrtO.lexB_no.mp h
      obtain ⟨t, a1, a2, rfl, e2⟩ := hws4.mem a (hb.perm.mem_iff.mp ha)
      obtain ⟨t', b1, b2, rfl, e2'⟩ := hws4.mem b (hb.perm.mem_iff.mp hb')
      rw [prI_of e2, prI_of e2'] at h
      rw [prN_of e2, prN_of e2']
      have h : ¬ ((b1 : Int) < (a1 : Int) ∨ (b1 : Int) = a1 ∧ (b2 : Int) < a2) := h
      show a1 < b1 ∨ a1 = b1 ∧ a2 ≤ b2
      omega
    generalize ys.map (prN H4) = es' at hys6 hperm hlex
    have good' := good.perm hperm
    have les : es'.length = es.length := hperm.length_eq
    refine ⟨_, rfl, x, C, dx, _, rfl, hx6, G.cls, G.edges, by show 1 < 1000; decide, ?_⟩
    have b7 : But (· = x) H (upd H6 x (.ins C dx [("n", nV n), ("edges", .ref eT)])) := b6.trans (But.mut (X := (· = x)) rfl)
    have hx7 : (upd H6 x (.ins C dx [("n", nV n), ("edges", .ref eT)])) x = some (.ins C dx [("n", nV n), ("edges", .ref eT)]) := upd_same
    have neT : eT ≠ x := fun z => by rw [z, hx6] at heT; cases heT
    have heT7 : (upd H6 x (.ins C dx [("n", nV n), ("edges", .ref eT)])) eT = some (.tup ys) := by rw [upd_ne neT]; exact heT
    have hys7 : Prs (upd H6 x (.ins C dx [("n", nV n), ("edges", .ref eT)])) ys es' := hys6.mono fun t a b e => by
      have : t ≠ x := fun z => by rw [z, hx6] at e; cases e
      rw [upd_ne this]; exact e
    show tSeq _ _ _ _ (upd H6 x (.ins C dx [("n", nV n), ("edges", .ref eT)]))
    generalize upd H6 x (.ins C dx [("n", nV n), ("edges", .ref eT)]) = H7 at b7 hx7 heT7 hys7 ⊢
    -- near
    refine ⟨_, rfl, _, rfl, x, C, dx, _, _, rfl, hx7, G.cls, G.edges, rfl, ?_⟩
    refine ⟨n, 0, eT, ys, es', rfl, .inr (SqT.of heT7), hys7, fun e he => ?_, by omega, by omega, by omega, fun H8 N F sm8 nN hN lF hF => ?_⟩
    · have := good'.1 e he
      omega
    refine ⟨_, rfl, _, rfl, by omega, by omega, for_range (lo := 0) (n := n) (fun i σ H' => ∃ (z : Option V), σ = [some (.ref x), some (nV n), some (.ref l), y, z0, u, some (.ref N), z] ∧ H' = H8) ?_ ?_ ?_⟩
    · exact ⟨_, rfl, rfl⟩
    · rintro i σ H' hi ⟨z, rfl, rfl⟩
      have hr := (hF i).mpr (good'.reach hi)
      have ei : V.int (0 + (i : Int)) = nV i := by rw [Int.zero_add]
      rw [ei]
      refine ⟨_, rfl, _, rfl, _, _, i, .bl true, rfl, rfl, SqL.of hN, atI_nat (by rw [List.getElem?_map, hr]; rfl), _, rfl, iteF ?_⟩
      exact ⟨_, rfl, rfl⟩
    · rintro σ H' ⟨z, rfl, rfl⟩
      -- genus
      have hx8 := sm8 _ _ hx7
      have heT8 := sm8 _ _ heT7
      have hys8 := hys7.same sm8
      have l8 := hys8.len
      refine ⟨_, rfl, x, C, dx, _, _, rfl, hx8, G.cls, G.edges, rfl, ?_⟩
      refine ⟨_, ys.length, rfl, .inr ⟨_, SqT.of heT8, rfl⟩, ?_⟩
      refine ⟨_, rfl, _, _, rfl, rfl, _, _, rfl, rfl, _, rfl, x, C, dx, _, rfl, hx8, G.cls, G.genus, by show 2 < 1000; decide, ?_⟩
      have eg : V.int ((ys.length : Int) - n + 1) = .int ((es'.length : Int) - n + 1) := by rw [l8]
      intro kd nkd
      have b9 : But (· = x) H (upd H' x (.ins C dx [("n", nV n), ("edges", .ref eT), ("genus", .int ((ys.length : Int) - n + 1))])) := (b7.trans (Same.but sm8)).trans (But.mut (X := (· = x)) rfl)
      have hx9 : (upd H' x (.ins C dx [("n", nV n), ("edges", .ref eT), ("genus", .int ((ys.length : Int) - n + 1))])) x = some (.ins C dx [("n", nV n), ("edges", .ref eT), ("genus", .int ((ys.length : Int) - n + 1))]) := upd_same
      have c9 : But (· = x) H' (upd H' x (.ins C dx [("n", nV n), ("edges", .ref eT), ("genus", .int ((ys.length : Int) - n + 1))])) := But.mut (X := (· = x)) rfl
      have nkd : (upd H' x (.ins C dx [("n", nV n), ("edges", .ref eT), ("genus", .int ((ys.length : Int) - n + 1))])) kd = none := nkd
      show tVar _ _ (upd (upd H' x (.ins C dx [("n", nV n), ("edges", .ref eT), ("genus", .int ((ys.length : Int) - n + 1))])) kd (.dK [])) _
      generalize upd H' x (.ins C dx [("n", nV n), ("edges", .ref eT), ("genus", .int ((ys.length : Int) - n + 1))]) = H9 at b9 hx9 c9 nkd ⊢
      have s10 : Same H9 (upd H9 kd (.dK [])) := same_upd nkd
      have nkx : kd ≠ x := fun z => by rw [z, hx9] at nkd; cases nkd
      refine ⟨_, rfl, x, C, dx, _, rfl, s10 _ _ hx9, G.cls, G.kept, by show 3 < 1000; decide, ?_⟩
      refine q _ es' kd ((b9.trans (Same.but s10)).trans (But.mut (X := (· = x)) rfl)) ⟨dx, eT, ys, ?_, ?_, ?_⟩ hperm hlex ?_ ?_
      · rw [upd_same, ← eg]; rfl
      · rw [upd_ne neT]
        exact s10 _ _ (c9 _ _ neT heT8)
      · refine hys8.mono fun t a b e => ?_
        have : t ≠ x := fun z => by rw [z, hx8] at e; cases e
        rw [upd_ne this]
        exact s10 _ _ (c9 _ _ this e)
      · cases e : H kd with
        | none => rfl
        | some o =>
          rw [b9 _ _ nkx e] at nkd
          cases nkd
      · rw [upd_ne nkx]; exact upd_same
end
end G3

set_option Elab.async false
set_option linter.all false
set_option maxRecDepth 100000
set_option maxHeartbeats 2000000
namespace G3
open PySem PySem.Spec PyProof.Rows L2
/-! ## counts in dicts of ints -/
abbrev entN (e : Pr) : L2.Key × V := (Sum.inl (e.1 : Int), nV e.2)
def toI (e : Pr) : Int × Int := ((e.1 : Int), (e.2 : Int))
theorem map_entN (ks : List Pr) : ks.map entN = (ks.map toI).map L2.DX.entI := by rw [List.map_map]; rfl
def putN (ks : List Pr) (u v : Nat) : List Pr := if ks.any (fun e => decide (e.1 = u)) then ks.map (fun e => if e.1 = u then (e.1, v) else e) else ks ++ [(u, v)]
theorem inl_nat {a b : Nat} : (Sum.inl (a : Int) : L2.Key) = Sum.inl (b : Int) ↔ a = b := ⟨fun h => by injection h with h; omega, fun h => by rw [h]⟩
theorem putK_N (ks : List Pr) (u v : Nat) : putK (ks.map entN) (Sum.inl (u : Int)) (nV v) = (putN ks u v).map entN := by
  unfold putK putN
  have e : ((ks.map entN).any fun kv => decide (kv.1 = Sum.inl (u : Int))) = ks.any (fun e => decide (e.1 = u)) := by
    rw [List.any_map]
    congr 1
    funext x
    exact decide_eq_decide.mpr inl_nat
  rw [e]
  by_cases c : ks.any (fun e => decide (e.1 = u)) = true
  · rw [if_pos c, if_pos c, List.map_map, List.map_map]
    refine List.map_congr_left fun x _ => ?_
    show (if (entN x).1 = Sum.inl (u : Int) then ((entN x).1, nV v) else entN x) = entN (if x.1 = u then (x.1, v) else x)
    by_cases d : x.1 = u
    · rw [if_pos d, if_pos (inl_nat.mpr d)]
    · rw [if_neg d, if_neg (fun z => d (inl_nat.mp z))]
  · rw [if_neg c, if_neg c, List.map_append]; rfl
/-- the dict ks tells just the counts m that are not 0 -/
def DR (m : Nat → Nat) (ks : List Pr) : Prop := (ks.map (·.1)).Nodup ∧ ∀ u v, (u, v) ∈ ks ↔ v = m u ∧ 0 < m u
theorem val_in {u v : Nat} : ∀ {ks : List Pr}, (ks.map (·.1)).Nodup → (u, v) ∈ ks → valV (ks.map entN) (Sum.inl (u : Int)) = some (nV v)
  | [], _, h => nomatch h
  | k :: ks, hn, h => by
    rw [List.map_cons] at hn ⊢
    obtain ⟨h1, h2⟩ := List.nodup_cons.mp hn
    rcases List.mem_cons.mp h with e | h
    · rw [valV_pos (show (entN k).1 = _ by rw [← e]), ← e]
    · have : k.1 ≠ u := fun z => h1 (List.mem_map.mpr ⟨_, h, z.symm⟩)
      rw [valV_neg (fun z => this (inl_nat.mp z))]
      exact val_in h2 h
theorem val_out {u : Nat} : ∀ {ks : List Pr}, (∀ v, (u, v) ∉ ks) → valV (ks.map entN) (Sum.inl (u : Int)) = none
  | [], _ => rfl
  | k :: ks, h => by
    rw [List.map_cons]
    have : k.1 ≠ u := fun z => h k.2 (by rw [← z]; exact List.mem_cons_self ..)
    rw [valV_neg (fun z => this (inl_nat.mp z))]
    exact val_out fun v hv => h v (List.mem_cons_of_mem _ hv)
theorem DR.get {m : Nat → Nat} {ks : List Pr} (h : DR m ks) (u : Nat) : (valV (ks.map entN) (Sum.inl (u : Int))).getD (.int 0) = nV (m u) := by
  by_cases c : 0 < m u
  · rw [val_in h.1 ((h.2 u (m u)).mpr ⟨rfl, c⟩)]; rfl
  · rw [val_out fun v hv => c ((h.2 u v).mp hv).2]
    have : m u = 0 := by omega
    rw [this]; rfl
theorem DR.nil : DR (fun _ => 0) [] := ⟨List.nodup_nil, fun u v => ⟨fun h => (nomatch h), fun h => absurd h.2 (Nat.lt_irrefl 0)⟩⟩
/-- one more of u -/
def bump (m : Nat → Nat) (u x : Nat) : Nat := if x = u then m u + 1 else m x
theorem bump_eq {m : Nat → Nat} {u x : Nat} (h : x = u) : bump m u x = m u + 1 := if_pos h
theorem bump_ne {m : Nat → Nat} {u x : Nat} (h : ¬ x = u) : bump m u x = m x := if_neg h
theorem DR.put {m : Nat → Nat} {ks : List Pr} (h : DR m ks) (u : Nat) : DR (bump m u) (putN ks u (m u + 1)) := by
  unfold putN
  by_cases c : ks.any (fun e => decide (e.1 = u)) = true
  · rw [if_pos c]
    have ek : (ks.map fun e => if e.1 = u then (e.1, m u + 1) else e).map (·.1) = ks.map (·.1) := by
      rw [List.map_map]
      refine List.map_congr_left fun x _ => ?_
      show (if x.1 = u then (x.1, m u + 1) else x).1 = x.1
      split <;> rfl
    refine ⟨ek ▸ h.1, fun x v => ⟨fun hm => ?_, fun ⟨e1, e2⟩ => ?_⟩⟩
    · obtain ⟨y, hy, e⟩ := List.mem_map.mp hm
      by_cases d : y.1 = u
      · rw [if_pos d] at e
        cases e
        rw [bump_eq d]
        exact ⟨rfl, Nat.succ_pos _⟩
      · rw [if_neg d] at e
        subst e
        rw [bump_ne d]
        exact (h.2 _ _).mp hy
    · obtain ⟨y, hy, d⟩ := List.any_eq_true.mp c
      have d : y.1 = u := of_decide_eq_true d
      by_cases dx : x = u
      · rw [bump_eq dx] at e1
        refine List.mem_map.mpr ⟨y, hy, ?_⟩
        rw [if_pos d, d, e1, dx]
      · rw [bump_ne dx] at e1 e2
        exact List.mem_map.mpr ⟨(x, v), (h.2 x v).mpr ⟨e1, e2⟩, by rw [if_neg dx]⟩
  · rw [if_neg c]
    have nu : ∀ v, (u, v) ∉ ks := fun v hv => c (List.any_eq_true.mpr ⟨_, hv, decide_eq_true rfl⟩)
    have m0 : m u = 0 := by
      by_cases d : 0 < m u
      · exact absurd ((h.2 u (m u)).mpr ⟨rfl, d⟩) (nu _)
      · omega
    refine ⟨?_, fun x v => ⟨fun hm => ?_, fun ⟨e1, e2⟩ => ?_⟩⟩
    · rw [List.map_append]
      refine List.nodup_append.mpr ⟨h.1, List.nodup_cons.mpr ⟨List.not_mem_nil, List.nodup_nil⟩, fun a ha b hb e => ?_⟩
      rw [List.mem_singleton.mp hb] at e
      obtain ⟨y, hy, z⟩ := List.mem_map.mp ha
      exact nu y.2 (by rw [← (show y.1 = u from z.trans e)]; exact hy)
    · rcases List.mem_append.mp hm with hm | hm
      · have := (h.2 x v).mp hm
        have dx : x ≠ u := fun z => nu v (z ▸ hm)
        rw [bump_ne dx]; exact this
      · cases List.mem_singleton.mp hm
        rw [bump_eq rfl]; exact ⟨rfl, Nat.succ_pos _⟩
    · by_cases dx : x = u
      · rw [bump_eq dx] at e1
        exact List.mem_append.mpr (.inr (List.mem_singleton.mpr (by rw [e1, dx])))
      · rw [bump_ne dx] at e1 e2
        exact List.mem_append.mpr (.inl ((h.2 x v).mpr ⟨e1, e2⟩))
theorem DR.len {m : Nat → Nat} {ks : List Pr} (h : DR m ks) {n : Nat} (hm : ∀ u, 0 < m u → u < n) : ks.length ≤ n := by
  have : ∀ (l k : List Nat), l.Nodup → (∀ x ∈ l, x ∈ k) → l.length ≤ k.length := by
    intro l
    induction l with
    | nil => intro k _ _; exact Nat.zero_le _
    | cons a t ih =>
      intro k hn hs
      obtain ⟨h1, h2⟩ := List.nodup_cons.mp hn
      have ha := hs a (List.mem_cons_self ..)
      have := ih (k.erase a) h2 fun x hx => (List.mem_erase_of_ne (a := x) (b := a) (fun z => h1 (by rw [← z]; exact hx))).mpr (hs x (List.mem_cons_of_mem _ hx))
      rw [List.length_erase_of_mem ha] at this
      have : 0 < k.length := List.length_pos_of_mem ha
      rw [List.length_cons]; omega
  have := this (ks.map (·.1)) (List.range n) h.1 fun x hx => by
    obtain ⟨y, hy, rfl⟩ := List.mem_map.mp hx
    exact List.mem_range.mpr (hm _ ((h.2 y.1 y.2).mp hy).2)
  rwa [List.length_map, List.length_range] at this
/-- how many edges between two places -/
def mult (es : List Pr) (i u : Nat) : Nat := es.count (i, u) + es.count (u, i)
theorem mult_app {es : List Pr} {e : Pr} {i u : Nat} : mult (es ++ [e]) i u = mult es i u + ((if e = (i, u) then 1 else 0) + (if e = (u, i) then 1 else 0)) := by
  unfold mult
  rw [List.count_append, List.count_append, List.count_singleton, List.count_singleton]
  have h1 : (if (e == (i, u)) = true then 1 else 0) = (if e = (i, u) then 1 else 0) := by simp
  have h2 : (if (e == (u, i)) = true then 1 else 0) = (if e = (u, i) then 1 else 0) := by simp
  rw [h1, h2]; omega
theorem mult_pos {es : List Pr} {i u n : Nat} (h : ∀ e ∈ es, e.1 < n ∧ e.2 < n) (hm : 0 < mult es i u) : u < n := by
  unfold mult at hm
  by_cases c : 0 < es.count (i, u)
  · exact (h _ (List.count_pos_iff.mp c)).2
  · exact (h _ (List.count_pos_iff.mp (by omega : 0 < es.count (u, i)))).1
/-- the counts in the order of their places -/
def IsLine (m : Nat → Nat) (l : List Pr) : Prop := (l.map (·.1)).Pairwise (· < ·) ∧ ∀ u v, (u, v) ∈ l ↔ v = m u ∧ 0 < m u
end G3

set_option Elab.async false
set_option linter.all false
set_option maxRecDepth 100000
set_option maxHeartbeats 2000000
namespace G3
open PySem PySem.Spec PyProof.Rows L2
theorem dict_ne {kvs : List (L2.Key × V)} {xs : List V} : HO.lst xs ≠ .dK kvs ∧ HO.tup xs ≠ .dK kvs := ⟨fun h => (nomatch h), fun h => (nomatch h)⟩
/-- all but the dict at kd stands -/
theorem But.lst {H H' : Hp} {kd a : Addr} {kvs : List (L2.Key × V)} {xs : List V} (b : But (· = kd) H H') (hk : H kd = some (.dK kvs)) (h : H a = some (.lst xs)) : H' a = some (.lst xs) := b _ _ (ne_of h hk dict_ne.1) h
theorem But.tup {H H' : Hp} {kd a : Addr} {kvs : List (L2.Key × V)} {xs : List V} (b : But (· = kd) H H') (hk : H kd = some (.dK kvs)) (h : H a = some (.tup xs)) : H' a = some (.tup xs) := b _ _ (ne_of h hk dict_ne.2) h
theorem But.prs {H H' : Hp} {kd : Addr} {kvs : List (L2.Key × V)} (b : But (· = kd) H H') (hk : H kd = some (.dK kvs)) {vs : List V} {ps : List Pr} (h : Prs H vs ps) : Prs H' vs ps := h.mono fun _ _ _ e => b.tup hk e
/-- the lines of a graph; R: whose things are its own -/
def BesAt (H : Hp) (R : Addr → Prop) (v : V) (n : Nat) (es : List Pr) : Prop := ∃ (LB : Addr) (as : List Addr), v = .ref LB ∧ R LB ∧ H LB = some (.lst (as.map V.ref)) ∧ as.length = n ∧
  ∀ i a, as[i]? = some a → R a ∧ ∃ (ws : List V) (l : List Pr), H a = some (.lst ws) ∧ (∀ t, V.ref t ∈ ws → R t) ∧ Prs H ws l ∧ IsLine (mult es i) l
theorem Prs.stay {H H' : Hp} {R : Addr → Prop} (b : ∀ x o, R x → H x = some o → H' x = some o) : ∀ {vs : List V} {ps : List Pr}, (∀ t, V.ref t ∈ vs → R t) → Prs H vs ps → Prs H' vs ps
  | [], [], _, _ => True.intro
  | v :: vs, p :: ps, hr, ⟨⟨t, h1, h2⟩, h⟩ => ⟨⟨t, h1, b _ _ (hr t (by rw [h1]; exact List.mem_cons_self ..)) h2⟩, Prs.stay b (fun u hu => hr u (List.mem_cons_of_mem _ hu)) h⟩
  | [], _ :: _, _, h => h.elim
  | _ :: _, [], _, h => h.elim
theorem BesAt.stay {H H' : Hp} {R R' : Addr → Prop} {v : V} {n : Nat} {es : List Pr} (b : ∀ x o, R x → H x = some o → H' x = some o) (hr : ∀ x, R x → R' x) (h : BesAt H R v n es) : BesAt H' R' v n es := by
  obtain ⟨LB, as, e, r1, h1, h2, h3⟩ := h
  refine ⟨LB, as, e, hr _ r1, b _ _ r1 h1, h2, fun i a hi => ?_⟩
  obtain ⟨r2, ws, l, k1, k2, k3, k4⟩ := h3 i a hi
  exact ⟨hr _ r2, ws, l, b _ _ r2 k1, fun t ht => hr _ (k2 t ht), k3.stay b k2, k4⟩
/-- what a graph keeps: for each name what it stands for -/
structure Memo where
  keys : List L2.Key
  M : Hp → (Addr → Prop) → Nat → List Pr → L2.Key → V → Prop
  few : keys.length ≤ 1000
  stay : ∀ {H H' : Hp} {R R' : Addr → Prop} {n : Nat} {es : List Pr} {k : L2.Key} {v : V}, (∀ x o, R x → H x = some o → H' x = some o) → (∀ x, R x → R' x) → M H R n es k v → M H' R' n es k v
/-- it keeps the lines -/
structure MemoB (m : Memo) : Prop where
  key : (Sum.inr "chip beside" : L2.Key) ∈ m.keys
  iff : ∀ H R n es v, m.M H R n es (Sum.inr "chip beside") v ↔ BesAt H R v n es
theorem ins_dK {C dx : Addr} {fs : List (Str × V)} {kvs : List (L2.Key × V)} : HO.ins C dx fs ≠ .dK kvs := fun h => by cases h
def GrR (H : Hp) (R : Addr → Prop) (C g kd : Addr) (n : Nat) (es : List Pr) : Prop := ∃ (dx eT : Addr) (vs : List V), H g = some (.ins C dx [("n", nV n), ("edges", .ref eT), ("genus", .int ((es.length : Int) - n + 1)), ("kept", .ref kd)]) ∧ H eT = some (.tup vs) ∧ Prs H vs es ∧ R g ∧ R eT ∧ ∀ t, V.ref t ∈ vs → R t
theorem GrR.stay {H H' : Hp} {R R' : Addr → Prop} {C g kd : Addr} {n : Nat} {es : List Pr} (b : ∀ x o, R x → H x = some o → H' x = some o) (hr : ∀ x, R x → R' x) (h : GrR H R C g kd n es) : GrR H' R' C g kd n es := by
  obtain ⟨dx, eT, vs, h1, h2, h3, r1, r2, r3⟩ := h
  exact ⟨dx, eT, vs, b _ _ r1 h1, b _ _ r2 h2, h3.stay b r3, hr _ r1, hr _ r2, fun t ht => hr _ (r3 t ht)⟩
def Gr (m : Memo) (H : Hp) (C g kd : Addr) (R : Addr → Prop) (n : Nat) (es : List Pr) : Prop := GrR H R C g kd n es ∧ Good n es ∧ 1 ≤ n ∧ n ≤ 64 ∧ es.length ≤ 400 ∧ Lex es ∧ (∀ x, R x → H x ≠ none ∧ x ≠ kd) ∧
  ∃ kvs : List (L2.Key × V), H kd = some (.dK kvs) ∧ (kvs.map (·.1)).Nodup ∧ ∀ k v, (k, v) ∈ kvs → k ∈ m.keys ∧ m.M H R n es k v
theorem Gr.stay {m : Memo} {H H' : Hp} {C g kd : Addr} {R : Addr → Prop} {n : Nat} {es : List Pr} (h : Gr m H C g kd R n es) (b : ∀ x o, R x ∨ x = kd → H x = some o → H' x = some o) : Gr m H' C g kd R n es := by
  obtain ⟨h1, h2, h3, h4, h5, h6, h7, kvs, k1, k2, k3⟩ := h
  have b1 : ∀ x o, R x → H x = some o → H' x = some o := fun x o r e => b x o (.inl r) e
  refine ⟨h1.stay b1 fun _ r => r, h2, h3, h4, h5, h6, fun x r => ⟨?_, (h7 x r).2⟩, kvs, b _ _ (.inr rfl) k1, k2, fun k v hm => ⟨(k3 k v hm).1, m.stay b1 (fun _ r => r) (k3 k v hm).2⟩⟩
  cases e : H x with
  | none => exact absurd e (h7 x r).1
  | some o => rw [b1 x o r e]; exact fun z => nomatch z
/-- other things may come and go -/
theorem Gr.same {m : Memo} {H H' : Hp} {C g kd : Addr} {R : Addr → Prop} {n : Nat} {es : List Pr} (h : Gr m H C g kd R n es) (e : Same H H') : Gr m H' C g kd R n es := h.stay fun x o _ z => e x o z
theorem Gr.but {m : Memo} {H H' : Hp} {X : Addr → Prop} {C g kd : Addr} {R : Addr → Prop} {n : Nat} {es : List Pr} (h : Gr m H C g kd R n es) (e : But X H H') (hx : ∀ x, X x → ¬ R x ∧ x ≠ kd) : Gr m H' C g kd R n es :=
  h.stay fun x o r z => e x o (fun q => r.elim (hx x q).1 (hx x q).2) z
theorem val_mem {k : L2.Key} {v : V} : ∀ {kvs : List (L2.Key × V)}, valV kvs k = some v → (k, v) ∈ kvs
  | [], h => nomatch h
  | p :: r, h => by
    by_cases e : p.1 = k
    · rw [valV_pos e] at h
      rw [← e, ← Option.some.inj h]
      exact List.mem_cons_self ..
    · rw [valV_neg e] at h
      exact List.mem_cons_of_mem _ (val_mem h)
theorem val_none {k : L2.Key} : ∀ {kvs : List (L2.Key × V)}, valV kvs k = none → k ∉ kvs.map (·.1)
  | [], _, h => nomatch h
  | p :: r, h, hm => by
    by_cases e : p.1 = k
    · rw [valV_pos e] at h; cases h
    · rw [valV_neg e] at h
      rw [List.map_cons] at hm
      rcases List.mem_cons.mp hm with z | z
      · exact e z.symm
      · exact val_none h z
theorem few_keys : ∀ (l k : List L2.Key), l.Nodup → (∀ x ∈ l, x ∈ k) → l.length ≤ k.length
  | [], _, _, _ => Nat.zero_le _
  | a :: t, k, hn, hs => by
    obtain ⟨h1, h2⟩ := List.nodup_cons.mp hn
    have ha := hs a (List.mem_cons_self ..)
    have h3 := few_keys t (k.filter fun x => decide (x ≠ a)) h2 fun x hx => List.mem_filter.mpr ⟨hs x (List.mem_cons_of_mem _ hx), decide_eq_true (fun z => h1 (by rw [← z]; exact hx))⟩
    have h4 : (k.filter fun x => decide (x ≠ a)).length < k.length := List.length_filter_lt_length_iff_exists.mpr ⟨a, ha, by simp⟩
    rw [List.length_cons]; omega
/-- one more thing is kept: v under the new name k; it may have come with new things of its own -/
theorem Gr.keep {m : Memo} {H : Hp} {C g kd : Addr} {R R' : Addr → Prop} {n : Nat} {es : List Pr} {kvs : List (L2.Key × V)} {k : L2.Key} {v : V} (h : Gr m H C g kd R n es) (hk : H kd = some (.dK kvs)) (hn : valV kvs k = none) (hm : k ∈ m.keys)
    (hr : ∀ x, R x → R' x) (h7' : ∀ x, R' x → H x ≠ none ∧ x ≠ kd) (hv : m.M H R' n es k v) :
    kvs.length < sizeLine ∧ Gr m (upd H kd (.dK (putK kvs k v))) C g kd R' n es := by
  obtain ⟨h1, h2, h3, h4, h5, h6, h7, kvs', k1, k2, k3⟩ := h
  rw [hk] at k1
  cases k1
  have len : kvs.length ≤ 1000 := by
    have := few_keys (kvs.map (·.1)) m.keys k2 fun x hx => by
      obtain ⟨y, hy, rfl⟩ := List.mem_map.mp hx
      exact (k3 y.1 y.2 hy).1
    rw [List.length_map] at this
    exact Nat.le_trans this m.few
  rw [putK_new v hn]
  have b' : ∀ x o, R' x → H x = some o → (upd H kd (.dK (kvs ++ [(k, v)]))) x = some o := fun x o r e => by rw [upd_ne (h7' x r).2]; exact e
  have b : ∀ x o, R x → H x = some o → (upd H kd (.dK (kvs ++ [(k, v)]))) x = some o := fun x o r e => b' x o (hr x r) e
  refine ⟨size_lt (by omega), h1.stay b hr, h2, h3, h4, h5, h6, fun x r => ⟨?_, (h7' x r).2⟩, _, upd_same, ?_, ?_⟩
  · rw [upd_ne (h7' x r).2]; exact (h7' x r).1
  · rw [List.map_append]
    refine List.nodup_append.mpr ⟨k2, List.nodup_cons.mpr ⟨List.not_mem_nil, List.nodup_nil⟩, fun a ha c hc e => ?_⟩
    rw [List.mem_singleton.mp hc] at e
    exact val_none hn (by rw [← (show a = k from e)]; exact ha)
  · intro k' v' hm'
    rcases List.mem_append.mp hm' with z | z
    · exact ⟨(k3 k' v' z).1, m.stay b hr (k3 k' v' z).2⟩
    · cases List.mem_singleton.mp z
      exact ⟨hm, m.stay b' (fun _ r => r) hv⟩
theorem Gr.free {m : Memo} {H H' : Hp} {C g kd L : Addr} {R : Addr → Prop} {n : Nat} {es : List Pr} (h : Gr m H' C g kd R n es) (b : But (· = kd) H H') (nL : H' L = none) : H L = none := by
  cases e : H L with
  | none => rfl
  | some o =>
    obtain ⟨_, _, _, _, _, _, _, kvs, k1, _⟩ := h
    by_cases c : L = kd
    · rw [c, k1] at nL; cases nL
    · rw [b _ _ c e] at nL; cases nL
theorem dput_n {H : Hp} {a : Addr} {ks : List Pr} {u k : Nat} {y v : V} (h : H a = some (.dK (ks.map entN))) (hl : ks.length ≤ 1000) (hy : y = nV u) (hv : v = nV k) : DPut H a y v (upd H a (.dK ((putN ks u k).map entN))) := by
  subst hy; subst hv
  rw [← putK_N]
  exact DPut.k (k := Sum.inl (u : Int)) h (size_lt (by rw [List.length_map]; omega))
theorem DR.congr {m m' : Nat → Nat} {ks : List Pr} (h : DR m ks) (e : ∀ u, m u = m' u) : DR m' ks := ⟨h.1, fun u v => by rw [← e u]; exact h.2 u v⟩
theorem mult_take {es : List Pr} {i : Nat} {e : Pr} (h : es[i]? = some e) {v u : Nat} : mult (es.take (i + 1)) v u = mult (es.take i) v u + ((if e = (v, u) then 1 else 0) + (if e = (u, v) then 1 else 0)) := by
  rw [List.take_add_one, h]
  exact mult_app
theorem bump_one {es : List Pr} {i a b v : Nat} (h : es[i]? = some (a, b)) (hab : a < b) (ks : Nat → List Pr) (hk : ∀ v, DR (mult (es.take i) v) (ks v)) :
    DR (mult (es.take (i + 1)) v) (if v = b then putN (if b = a then putN (ks a) b (mult (es.take i) a b + 1) else ks b) a (mult (es.take i) b a + 1) else if v = a then putN (ks a) b (mult (es.take i) a b + 1) else ks v) := by
  have nab : ¬ b = a := by omega
  by_cases c : v = b
  · subst c
    rw [if_pos rfl, if_neg nab]
    refine ((hk v).put a).congr fun u => ?_
    rw [mult_take h]
    by_cases d : u = a
    · subst d
      rw [bump_eq rfl, if_neg (show ¬ (u, v) = (v, u) from fun z => by cases z; omega), if_pos rfl]
    · rw [bump_ne d, if_neg (show ¬ (a, v) = (v, u) from fun z => by cases z; omega), if_neg (show ¬ (a, v) = (u, v) from fun z => by cases z; exact d rfl)]; rfl
  · rw [if_neg c]
    by_cases c2 : v = a
    · subst c2
      rw [if_pos rfl]
      refine ((hk v).put b).congr fun u => ?_
      rw [mult_take h]
      by_cases d : u = b
      · subst d
        rw [bump_eq rfl, if_pos rfl, if_neg (show ¬ (v, u) = (u, v) from fun z => by cases z; omega)]
      · rw [bump_ne d, if_neg (show ¬ (v, b) = (v, u) from fun z => by cases z; exact d rfl), if_neg (show ¬ (v, b) = (u, v) from fun z => by cases z; omega)]; rfl
    · rw [if_neg c2]
      refine (hk v).congr fun u => ?_
      rw [mult_take h, if_neg (show ¬ (a, b) = (v, u) from fun z => by cases z; exact c2 rfl), if_neg (show ¬ (a, b) = (u, v) from fun z => by cases z; exact c rfl)]; rfl
/-- the sorted items are the line -/
theorem line_of {m : Nat → Nat} {ks : List Pr} {l : List (Int × Int)} (h : DR m ks) (hp : l.Perm (ks.map toI)) (hs : l.Pairwise fun e f => e.1 ≤ f.1) : IsLine m (l.map fun e => (e.1.toNat, e.2.toNat)) ∧ ∀ e ∈ l, e = ((e.1.toNat : Int), (e.2.toNat : Int)) := by
  have hl : ∀ e ∈ l, e = ((e.1.toNat : Int), (e.2.toNat : Int)) := fun e he => by
    obtain ⟨k, _, rfl⟩ := List.mem_map.mp (hp.mem_iff.mp he)
    rfl
  have hpn : (l.map fun e => (e.1.toNat, e.2.toNat)).Perm ks := by
    have := hp.map fun e : Int × Int => (e.1.toNat, e.2.toNat)
    rw [List.map_map] at this
    have e : ks.map ((fun e : Int × Int => (e.1.toNat, e.2.toNat)) ∘ toI) = ks := by
      have : ((fun e : Int × Int => (e.1.toNat, e.2.toNat)) ∘ toI) = id := by funext x; rfl
      rw [this, List.map_id]
    rwa [e] at this
  refine ⟨⟨?_, fun u v => ⟨fun hm => (h.2 u v).mp (hpn.mem_iff.mp hm), fun hm => hpn.mem_iff.mpr ((h.2 u v).mpr hm)⟩⟩, hl⟩
  have hnd : ((l.map fun e => (e.1.toNat, e.2.toNat)).map (·.1)).Nodup := (hpn.map (·.1)).nodup_iff.mpr h.1
  rw [List.map_map] at hnd ⊢
  have hle : (l.map ((·.1) ∘ fun e : Int × Int => (e.1.toNat, e.2.toNat))).Pairwise (· ≤ ·) := by
    rw [List.pairwise_map]
    exact hs.imp fun {x y} h => by
      show x.1.toNat ≤ y.1.toNat
      omega
  exact (List.Pairwise.and hle hnd).imp fun {x y} h => Nat.lt_of_le_of_ne h.1 h.2
section
variable {P : Program} {w : World} {K : PySem.W.Frag} {mg : Str → Option Value} {base : Heap} {C : Addr}
abbrev n_beside : List Str := ["graph", "found", "one", "other", "_", "line"]
abbrev p_beside : List Str := ["graph"]
theorem sc_beside : FnScope n_beside p_beside (defScope s_beside) := ⟨rfl, rfl, rfl, by decide +kernel, rfl, by decide +kernel, by decide +kernel⟩
abbrev n_valences : List Str := ["graph", "line", "_", "many"]
abbrev p_valences : List Str := ["graph"]
theorem sc_valences : FnScope n_valences p_valences (defScope s_valences) := ⟨rfl, rfl, rfl, by decide +kernel, rfl, by decide +kernel, by decide +kernel⟩
def spBeside (m : Memo) (C : Addr) : Sp := fun vs H Q _ => ∃ (g kd : Addr) (R : Addr → Prop) (n : Nat) (es : List Pr), vs = [.ref g] ∧ Gr m H C g kd R n es ∧ ∀ (H' : Hp) (R' : Addr → Prop) (v : V), But (· = kd) H H' → Gr m H' C g kd R' n es → (∀ x, R x → R' x) → (∀ x, R' x → R x ∨ H x = none) → BesAt H' R' v n es → Q v H'
theorem ok_beside {m : Memo} (mb : MemoB m) (D : DefAt K mg "beside" "beside" s_beside) (B : Bt mg) (G : GraphC K C) : Has P w K mg base CX0 1 "beside" p_beside (spBeside m C) := by
  refine has_of D sc_beside (fun _ _ _ _ _ _ us hl => match us, hl with | [_], _ => rfl) (fun vs H Q E h => ?_) (fun f cdv A outer s H vs Q E hr h => ?_)
  · obtain ⟨g, kd, R, n, es, rfl, _⟩ := h
    rfl
  · obtain ⟨g, kd, R, n, es, rfl, gr, q⟩ := h
    have hu : (cxOf CX0 P w K mg base n_beside "beside" (defScope s_beside) f cdv A outer s H E).nox.A.units + 1 < cLine := Nat.lt_of_le_of_lt (Nat.add_le_add_left (by decide : 1 ≤ 64) _) hr.units
    refine ⟨_, (Evl.pss_cut (ps_if (pt_cmp (pc_dnotin hu pe_str (fldK (K := K) rfl (pv 0) rfl))) (pss_cons (ps_setLc (i := 1) (own := [("_", 4)]) (g := gName 4) (tt := tYes) rfl sc_beside.nd rfl rfl (sw_true rfl rfl rfl (by decide +kernel)) (pi_range1 rfl B.range (pa_cons (fldK (K := K) rfl (pv 0) rfl) pa_nil)) (blkOk_by (N := n_beside) (sc := defScope s_beside) (by decide +kernel)) (fun _ _ _ _ _ => (pg_name (i := 4) sc_beside.nd rfl (.inl rfl))) (fun _ _ _ _ _ => pts_nil) (fun _ _ _ _ _ => (pe_dnewK)))
  (pss_cons (ps_for PassesOwn.never rfl (piT (K := K) rfl (fldK (K := K) rfl (pv 0) rfl)) (pgT (K := K) (n := 2) rfl rfl (pgs_cons (pg_name (i := 2) sc_beside.nd rfl (.inl rfl)) (pgs_cons (pg_name (i := 3) sc_beside.nd rfl (.inl rfl)) pgs_nil))) (pss_cons (ps_dput hu (pe_ix (ixL (K := K) rfl) (pv 1) (pv 2) (fun _ _ => rfl)) (pv 3) (pe_op op_add (pe_dget2 hu (pe_ix (ixL (K := K) rfl) (pv 1) (pv 2) (fun _ _ => rfl)) (pv 3) pe_int ⟨rfl, rfl, rfl, rfl⟩) pe_int) rfl)
  (pss_one (ps_dput hu (pe_ix (ixL (K := K) rfl) (pv 1) (pv 3) (fun _ _ => rfl)) (pv 2) (pe_op op_add (pe_dget2 hu (pe_ix (ixL (K := K) rfl) (pv 1) (pv 3) (fun _ _ => rfl)) (pv 2) pe_int ⟨rfl, rfl, rfl, rfl⟩) pe_int) rfl))))
  (pss_one (ps_dput hu (fldK (K := K) rfl (pv 0) rfl) pe_str (pe_lc (own := [("line", 5)]) (g := gName 5) (tt := tYes) rfl sc_beside.nd (piL (K := K) rfl (pv 1)) (blkOk_by (N := n_beside) (sc := defScope s_beside) (by decide +kernel)) (fun _ _ _ _ _ => (pg_name (i := 5) sc_beside.nd rfl (.inl rfl))) (fun _ _ _ _ _ => pts_nil) (fun _ _ _ _ _ => (pe_callB (L2.DX.cr_sortedItemsI rfl) rfl B.sorted (by decide +kernel) (pa_cons (bm0N (K := K) rfl PySem.F.plainAttrs_dict PySem.F.slot_dict_items PySem.F.type_dict_items L2.DX.mt_itemsK (pv 5)) pa_nil)))) rfl)))) pss_nil)
  (pss_one (ps_ret (pe_dget hu (fldK (K := K) rfl (pv 0) rfl) pe_str (fun _ _ => rfl))))), ?_⟩
    obtain ⟨⟨dx, eT, vs, hg, heT, hvs, _, _, _⟩, good, hn1, hn64, he4, hlex, hR, kvs, hkd, hnd, hM⟩ := id gr
    refine ⟨fun σ H' => ∃ (y z u t r : Option V) (kvs : List (L2.Key × V)) (v : V) (R' : Addr → Prop), σ = [some (.ref g), y, z, u, t, r] ∧ But (· = kd) H H' ∧ Gr m H' C g kd R' n es ∧ (∀ x, R x → R' x) ∧ (∀ x, R' x → R x ∨ H x = none) ∧ H' kd = some (.dK kvs) ∧ valV kvs (Sum.inr "chip beside") = some v, ?_, ?_⟩
    · refine ⟨_, rfl, g, C, dx, _, _, rfl, hg, G.cls, G.kept, rfl, kd, _, rfl, DGet.k (k := Sum.inr "chip beside") hkd, _, rfl, ?_⟩
      cases hv : valV kvs (Sum.inr "chip beside") with
      | some v => exact iteF ⟨_, _, _, _, _, kvs, v, R, rfl, But.refl, gr, fun _ r => r, fun _ r => .inl r, hkd, hv⟩
      | none =>
        refine iteT ?_
        have edg : ∀ e ∈ es, e.1 < n ∧ e.2 < n := fun e he => by have := good.1 e he; omega
        -- found
        refine ⟨_, rfl, g, C, dx, _, _, rfl, hg, G.cls, G.n, rfl, n, rfl, by omega, by omega, fun B0 nB => ?_⟩
        refine lc_range (lo := 0) (n := n) (fun i H2 => Same H H2 ∧ ∃ as, as.length = i ∧ Rows H2 B0 as (fun _ => .dK []) ∧ ∀ a ∈ as, H a = none) ⟨same_upd nB, [], rfl, Rows.nil, fun a h => nomatch h⟩ ?_ ?_
        · rintro i H2 hi ⟨sm, as, las, ro, fr⟩
          refine ⟨rfl, yes_ ?_⟩
          intro a na
          obtain ⟨p1, p2⟩ := ro.push (o := .dK []) na rfl
          refine ⟨_, p1, size_lt (by rw [List.length_map]; omega), same_mut (sm.trans (same_upd na)) nB, as ++ [a], by rw [List.length_append, las]; rfl, p2, fun x hx => ?_⟩
          rcases List.mem_append.mp hx with hx | hx
          · exact fr x hx
          · rw [List.mem_singleton.mp hx]; exact sm.free na
        rintro H2 ⟨sm2, as, las, ro, fr⟩
        have notAs : ∀ x o, H x = some o → ¬ x ∈ as := fun x o e z => by
          have := fr x z
          rw [e] at this; cases this
        -- the edges
        refine ⟨_, rfl, g, C, dx, _, _, rfl, sm2 _ _ hg, G.cls, G.edges, rfl, eT, rfl, ⟨_, SqT.of (sm2 _ _ heT)⟩, ?_⟩
        refine for_tup (K := K) (a := eT) (xs := vs) (fun i σ H' => ∃ (y z t r : Option V) (ks : Nat → List Pr), σ = [some (.ref g), some (.ref B0), y, z, t, r] ∧ But (· ∈ as) H2 H' ∧ Rows H' B0 as (fun v => .dK ((ks v).map entN)) ∧ ∀ v, DR (mult (es.take i) v) (ks v)) ?_ ?_ ?_ ?_
        · exact ⟨_, _, _, _, fun _ => [], rfl, But.refl, ro, fun v => DR.nil.congr fun u => rfl⟩
        · rintro i σ H' hi ⟨_, _, _, _, _, _, bt, _⟩
          exact SqT.of (bt _ _ (notAs _ _ heT) (sm2 _ _ heT))
        · rintro i x σ H' hx ⟨y, z, t, r, ks, rfl, bt, ro', hk⟩
          have hi : i < es.length := by rw [← hvs.len]; exact (List.getElem?_eq_some_iff.mp hx).1
          obtain ⟨t, e1, e2⟩ := hvs.get hi
          rw [hx] at e1
          obtain rfl := Option.some.inj e1
          obtain ⟨b1, b2⟩ := good.1 _ (List.getElem_mem hi)
          have hes : es[i]? = some es[i] := List.getElem?_eq_getElem hi
          generalize es[i] = e at e2 b1 b2 hes
          obtain ⟨a, b⟩ := e
          have ht : H' t = some (.tup [nV a, nV b]) := bt _ _ (notAs _ _ e2) (sm2 _ _ e2)
          refine ⟨t, _, rfl, SqT.of ht, rfl, _, _, rfl, _, _, rfl, rfl, ?_⟩
          have b1 : a < b := b1
          have b2 : b < n := b2
          have la : a < as.length := by omega
          have lb : b < as.length := by omega
          have tl : ∀ e ∈ es.take i, e.1 < n ∧ e.2 < n := fun e he => edg e (List.mem_of_mem_take he)
          have lks : ∀ v, (ks v).length ≤ n := fun v => (hk v).len fun u hu => mult_pos tl hu
          have ha := (ro'.at la).2
          refine ⟨_, rfl, _, rfl, _, _, a, .ref as[a], rfl, rfl, SqL.of ro'.1, atI_nat (rows_get la), as[a], rfl, .inl ⟨_, .inl ha⟩, _, rfl, _, DGet.k (k := Sum.inl (b : Int)) ha, ?_⟩
          refine ⟨_, _, (hk a).get b, rfl, ?_⟩
          refine ⟨_, rfl, _, rfl, _, _, a, .ref as[a], rfl, rfl, SqL.of ro'.1, atI_nat (rows_get la), _, rfl, as[a], _, rfl, dput_n (k := mult (es.take i) a b + 1) ha (by have := lks a; omega) rfl rfl, ?_⟩
          have r1 := ro'.set (o := .dK ((putN (ks a) b (mult (es.take i) a b + 1)).map entN)) (List.getElem?_eq_getElem la)
          have m1 : But (· ∈ as) H' (upd H' as[a] (.dK ((putN (ks a) b (mult (es.take i) a b + 1)).map entN))) := But.mut (X := (· ∈ as)) (List.getElem_mem la)
          generalize upd H' as[a] (.dK ((putN (ks a) b (mult (es.take i) a b + 1)).map entN)) = H3 at r1 m1
          have nab : ¬ b = a := by omega
          have hb := (r1.at lb).2
          have hb : H3 as[b] = some (.dK ((ks b).map entN)) := by rw [hb]; show some (if b = a then _ else _) = _; rw [if_neg nab]
          refine ⟨_, rfl, _, rfl, _, _, b, .ref as[b], rfl, rfl, SqL.of r1.1, atI_nat (rows_get lb), as[b], rfl, .inl ⟨_, .inl hb⟩, _, rfl, _, DGet.k (k := Sum.inl (a : Int)) hb, ?_⟩
          refine ⟨_, _, (hk b).get a, rfl, ?_⟩
          refine ⟨_, rfl, _, rfl, _, _, b, .ref as[b], rfl, rfl, SqL.of r1.1, atI_nat (rows_get lb), _, rfl, as[b], _, rfl, dput_n (k := mult (es.take i) b a + 1) hb (by have := lks b; omega) rfl rfl, ?_⟩
          refine ⟨_, _, _, _, _, rfl, (bt.trans m1).trans (But.mut (X := (· ∈ as)) (List.getElem_mem lb)), ?_, fun v => bump_one hes b1 ks hk⟩
          refine (r1.set (List.getElem?_eq_getElem lb)).to fun v hv => ?_
          show (if v = b then HO.dK ((putN (ks b) a (mult (es.take i) b a + 1)).map entN) else if v = a then HO.dK ((putN (ks a) b (mult (es.take i) a b + 1)).map entN) else .dK ((ks v).map entN)) = _
          rw [if_neg nab]
          split
          · rfl
          · split <;> rfl
        · rintro σ H3 ⟨y, z, t, r, ks, rfl, bt, ro', hk⟩
          rw [hvs.len, List.take_length] at hk
          have s3 : Same H H3 := bt.same sm2 fr
          refine ⟨_, rfl, B0, rfl, ⟨_, SqL.of ro'.1⟩, fun L nL => ?_⟩
          refine lc_list (K := K) (a := B0) (xs := as.map V.ref) (fun i H4 => Same H3 H4 ∧ ∃ ls : List Addr, ls.length = i ∧ H4 L = some (.lst (ls.map V.ref)) ∧ ∀ j a, ls[j]? = some a → a ≠ L ∧ H a = none ∧ ∃ (ws : List V) (l : List Pr), H4 a = some (.lst ws) ∧ (∀ t, V.ref t ∈ ws → H t = none ∧ H4 t ≠ none) ∧ Prs H4 ws l ∧ IsLine (mult es j) l) ?_ ?_ ?_ ?_
          · exact ⟨same_upd nL, [], rfl, upd_same, fun j a h => nomatch h⟩
          · rintro i H4 _ ⟨sm, _⟩
            exact SqL.of (sm _ _ ro'.1)
          · rintro i x H4 hx ⟨sm, ls, ll, hL, hls⟩
            have hi : i < as.length := by have := (List.getElem?_eq_some_iff.mp hx).1; rwa [List.length_map] at this
            rw [rows_get hi] at hx
            obtain rfl := Option.some.inj hx
            refine ⟨rfl, yes_ ?_⟩
            have hd := sm _ _ (ro'.at hi).2
            refine ⟨_, rfl, .inr (.inr (.inl ⟨rfl, .inl ⟨_, hd⟩⟩)), as[i], _, rfl, rfl, hd, fun pv npv => ?_⟩
            have sv : Same H4 (upd H4 pv (L2.DX.itemsO pv as[i])) := same_upd npv
            have hpv : (upd H4 pv (L2.DX.itemsO pv as[i])) pv = some (L2.DX.itemsO pv as[i]) := upd_same
            generalize upd H4 pv (L2.DX.itemsO pv as[i]) = H5 at sv hpv
            have hd5 := sv _ _ hd
            rw [map_entN] at hd5
            refine ⟨pv, as[i], (ks i).map toI, rfl, hpv, hd5, fun H6 l zs sm6 nl hp hs hl hz => ?_⟩
            obtain ⟨li, le⟩ := line_of (hk i) hp hs
            have s46 : Same H4 H6 := sv.trans sm6
            have nlL : l ≠ L := fun z => by
              rw [z, sv _ _ hL] at nl; cases nl
            have prs : Prs H6 (zs.map fun z => V.ref z.1) ((zs.map (·.2)).map fun e => (e.1.toNat, e.2.toNat)) := by
              clear hl hp hs li
              induction zs with
              | nil => exact True.intro
              | cons z zs ih =>
                refine ⟨⟨z.1, rfl, ?_⟩, ih (fun y hy => hz y (List.mem_cons_of_mem _ hy)) fun e he => le e (List.mem_cons_of_mem _ he)⟩
                have h1 := (hz z (List.mem_cons_self ..)).2
                have h2 := le z.2 (List.mem_cons_self ..)
                have h3 : z.2.1 = (z.2.1.toNat : Int) := congrArg Prod.fst h2
                have h4 : z.2.2 = (z.2.2.toNat : Int) := congrArg Prod.snd h2
                rw [h1]
                show some (HO.tup [.int z.2.1, .int z.2.2]) = some (HO.tup [.int (z.2.1.toNat : Int), .int (z.2.2.toNat : Int)])
                rw [← h3, ← h4]
            have grow : ∀ t, H4 t ≠ none → (upd H6 L (.lst (ls.map V.ref ++ [.ref l]))) t ≠ none := fun t ht => by
              by_cases c : t = L
              · rw [c, upd_same]; exact fun z => nomatch z
              · rw [upd_ne c]
                cases e : H4 t with
                | none => exact absurd e ht
                | some o => rw [s46 _ _ e]; exact fun z => nomatch z
            refine ⟨_, s46 _ _ hL, size_lt (by rw [List.length_map]; omega), same_mut (sm.trans s46) nL, ls ++ [l], by rw [List.length_append, ll]; rfl, by rw [upd_same, List.map_append]; rfl, fun j a hj => ?_⟩
            by_cases c : j < ls.length
            · rw [List.getElem?_append_left c] at hj
              obtain ⟨g1, g0, ws, l', g2, g5, g3, g4⟩ := hls j a hj
              refine ⟨g1, g0, ws, l', ?_, fun t ht => ⟨(g5 t ht).1, grow _ ((g5 t ht).2)⟩, (g3.same s46).mut (s46 _ _ hL), g4⟩
              rw [upd_ne g1]; exact s46 _ _ g2
            · have hl2 := (List.getElem?_eq_some_iff.mp hj).1
              rw [List.length_append] at hl2
              have : j = ls.length := by simp at hl2; omega
              subst this
              rw [List.getElem?_append_right (Nat.le_refl _)] at hj
              have : a = l := by simpa using hj.symm
              subst this
              rw [ll]
              refine ⟨nlL, (s3.trans (sm.trans sv)).free nl, _, _, by rw [upd_ne nlL]; exact hl, fun t ht => ?_, prs.mut (s46 _ _ hL), li⟩
              obtain ⟨z, hz', e⟩ := List.mem_map.mp ht
              cases e
              obtain ⟨q1, q2⟩ := hz z hz'
              exact ⟨(s3.trans (sm.trans sv)).free q1, by
                by_cases c : z.1 = L
                · rw [c, upd_same]; exact fun z => nomatch z
                · rw [upd_ne c, q2]; exact fun z => nomatch z⟩
          · rintro H4 ⟨sm, ls, ll, hL, hls⟩
            have s4 : Same H H4 := s3.trans sm
            rw [List.length_map, las] at ll
            have hR' : ∀ x, (R x ∨ (H x = none ∧ H4 x ≠ none)) → H4 x ≠ none ∧ x ≠ kd := fun x r => by
              rcases r with r | ⟨r1, r2⟩
              · refine ⟨?_, (hR x r).2⟩
                cases e : H x with
                | none => exact absurd e (hR x r).1
                | some o => rw [s4 _ _ e]; exact fun z => nomatch z
              · exact ⟨r2, fun z => by rw [z, hkd] at r1; cases r1⟩
            have bes : BesAt H4 (fun x => R x ∨ (H x = none ∧ H4 x ≠ none)) (.ref L) n es := ⟨L, ls, rfl, .inr ⟨s3.free nL, by rw [hL]; exact fun z => nomatch z⟩, hL, ll, fun i a hi => by
              obtain ⟨_, g0, ws, l, g2, g5, g3, g4⟩ := hls i a hi
              exact ⟨.inr ⟨g0, by rw [g2]; exact fun z => nomatch z⟩, ws, l, g2, fun t ht => .inr (g5 t ht), g3, g4⟩⟩
            have gr4 := gr.same s4
            have hkd4 := s4 _ _ hkd
            obtain ⟨lt, gr5⟩ := gr4.keep hkd4 hv mb.key (fun x r => .inl r) hR' ((mb.iff _ _ _ _ _).mpr bes)
            refine ⟨_, rfl, g, C, dx, _, _, rfl, s4 _ _ hg, G.cls, G.kept, rfl, kd, _, rfl, DPut.k (k := Sum.inr "chip beside") hkd4 lt, ?_⟩
            refine ⟨_, _, _, _, _, _, .ref L, _, rfl, (Same.but s4).trans (But.mut (X := (· = kd)) rfl), gr5, fun x r => .inl r, fun x r => r.imp id And.left, upd_same, ?_⟩
            rw [valV_put, if_pos rfl]
    · rintro σ H' ⟨y, z, u, t, r, kvs', v, R', rfl, bt, gr', hr1, hr2, hkd', hv⟩
      obtain ⟨⟨dx', eT', vs', hg', heT', hvs', _, _, _⟩, _, _, _, _, _, _, kvs2, hk2, hnd2, hM2⟩ := id gr'
      rw [hkd'] at hk2
      cases hk2
      refine ⟨_, rfl, g, C, dx', _, _, rfl, hg', G.cls, G.kept, rfl, kd, _, rfl, hv ▸ DGet.k (k := Sum.inr "chip beside") hkd', ?_⟩
      exact q _ _ _ bt gr' hr1 hr2 ((mb.iff _ _ _ _ _).mp (hM2 _ _ (val_mem hv)).2)
end
end G3

set_option Elab.async false
set_option linter.all false
set_option maxRecDepth 100000
set_option maxHeartbeats 2000000
namespace G3
open PySem PySem.Spec PyProof.Rows L2
/-! ## sums over lines -/
theorem nodup_map {α β : Type} (f : α → β) : ∀ {l : List α}, (l.map f).Nodup → l.Nodup
  | [], _ => List.nodup_nil
  | a :: l, h => by
    rw [List.map_cons] at h
    obtain ⟨h1, h2⟩ := List.nodup_cons.mp h
    exact List.nodup_cons.mpr ⟨fun z => h1 (List.mem_map.mpr ⟨a, z, rfl⟩), nodup_map f h2⟩
def msum (m : Nat → Nat) (n : Nat) (f : Nat → Int) : Int := ((List.range n).map fun u => (m u : Int) * f u).sum
theorem sum_perm : ∀ {l k : List Int}, l.Perm k → l.sum = k.sum := fun h => by
  induction h with
  | nil => rfl
  | cons x _ ih => rw [List.sum_cons, List.sum_cons, ih]
  | swap x y l => rw [List.sum_cons, List.sum_cons, List.sum_cons, List.sum_cons]; omega
  | trans _ _ h1 h2 => rw [h1, h2]
theorem line_sum {m : Nat → Nat} {l : List Pr} {n : Nat} (h : IsLine m l) (hm : ∀ u, 0 < m u → u < n) (f : Nat → Int) : (l.map fun e => (e.2 : Int) * f e.1).sum = msum m n f := by
  have nd1 : l.Nodup := nodup_map (fun x : Pr => x.1) (h.1.imp fun h => Nat.ne_of_lt h)
  have nd2 : (((List.range n).filter fun u => decide (0 < m u)).map fun u => (u, m u)).Nodup := nodup_map (fun x : Pr => x.1) (by
    rw [List.map_map]
    have : ((fun x : Pr => x.1) ∘ fun u => (u, m u)) = id := rfl
    rw [this, List.map_id]
    exact List.nodup_range.filter _)
  have hp : l.Perm (((List.range n).filter fun u => decide (0 < m u)).map fun u => (u, m u)) := (List.perm_ext_iff_of_nodup nd1 nd2).mpr fun e => by
    obtain ⟨u, v⟩ := e
    rw [h.2 u v, List.mem_map]
    constructor
    · rintro ⟨rfl, h2⟩
      exact ⟨u, List.mem_filter.mpr ⟨List.mem_range.mpr (hm u h2), decide_eq_true h2⟩, rfl⟩
    · rintro ⟨x, hx, e⟩
      cases e
      exact ⟨rfl, of_decide_eq_true (List.mem_filter.mp hx).2⟩
  rw [sum_perm (hp.map fun e => (e.2 : Int) * f e.1), List.map_map]
  unfold msum
  generalize List.range n = r
  induction r with
  | nil => rfl
  | cons a r ih =>
    rw [List.map_cons, List.sum_cons, ← ih]
    by_cases c : 0 < m a
    · rw [List.filter_cons_of_pos (p := fun u => decide (0 < m u)) (decide_eq_true c), List.map_cons, List.sum_cons]; rfl
    · rw [List.filter_cons_of_neg (p := fun u => decide (0 < m u)) (by simpa using c)]
      have : m a = 0 := by omega
      rw [this]
      simp
theorem line_le {m : Nat → Nat} {l : List Pr} {n : Nat} (h : IsLine m l) (hm : ∀ u, 0 < m u → u < n) : l.length ≤ n := by
  have nd : (l.map (·.1)).Nodup := h.1.imp fun h => Nat.ne_of_lt h
  have : DR m l := ⟨nd, h.2⟩
  exact this.len hm
theorem mult_le {es : List Pr} {i u : Nat} : mult es i u ≤ 2 * es.length := by
  unfold mult
  have h1 := List.count_le_length (a := (i, u)) (l := es)
  have h2 := List.count_le_length (a := (u, i)) (l := es)
  omega
theorem Gr.edg {m : Memo} {H : Hp} {C g kd : Addr} {R : Addr → Prop} {n : Nat} {es : List Pr} (h : Gr m H C g kd R n es) : ∀ e ∈ es, e.1 < n ∧ e.2 < n := fun e he => by
  have := h.2.1.1 e he
  omega
section
variable {P : Program} {w : World} {K : PySem.W.Frag} {mg : Str → Option Value} {base : Heap} {C : Addr}
abbrev n_sent_by : List Str := ["graph", "script", "found", "place", "line", "other", "many"]
abbrev p_sent_by : List Str := ["graph", "script"]
theorem sc_sent_by : FnScope n_sent_by p_sent_by (defScope s_sent_by) := ⟨rfl, rfl, rfl, by decide +kernel, rfl, by decide +kernel, by decide +kernel⟩
abbrev n_led : List Str := ["graph", "chips", "script", "many", "less"]
abbrev p_led : List Str := ["graph", "chips", "script"]
theorem sc_led : FnScope n_led p_led (defScope s_led) := ⟨rfl, rfl, rfl, by decide +kernel, rfl, by decide +kernel, by decide +kernel⟩
def valOf (n : Nat) (es : List Pr) (i : Nat) : Int := msum (mult es i) n fun _ => 1
def spValences (m : Memo) (C : Addr) : Sp := fun vs H Q _ => ∃ (g kd : Addr) (R : Addr → Prop) (n : Nat) (es : List Pr), vs = [.ref g] ∧ Gr m H C g kd R n es ∧
  ∀ (H' : Hp) (R' : Addr → Prop) (L : Addr), But (· = kd) H H' → Gr m H' C g kd R' n es → (∀ x, R x → R' x) → (∀ x, R' x → R x ∨ H x = none) → H L = none → ¬ R' L → H' L = some (.lst (((List.range n).map (valOf n es)).map V.int)) → Q (.ref L) H'
theorem ok_valences {m : Memo} (D : DefAt K mg "valences" "valences" s_valences) (B : Bt mg) (h_beside : Has P w K mg base CX0 1 "beside" p_beside (spBeside m C)) : Has P w K mg base CX0 2 "valences" p_valences (spValences m C) := by
  refine has_of D sc_valences (fun _ _ _ _ _ _ us hl => match us, hl with | [_], _ => rfl) (fun vs H Q E h => ?_) (fun f cdv A outer s H vs Q E hr h => ?_)
  · obtain ⟨g, kd, R, n, es, rfl, _⟩ := h
    rfl
  · obtain ⟨g, kd, R, n, es, rfl, gr, q⟩ := h
    refine ⟨_, (pss_one (ps_ret (pe_lc (own := [("line", 1)]) (g := gName 1) (tt := tYes) rfl sc_valences.nd (piL (K := K) rfl (pe_h h_beside hr pass0 (pa_cons (pv 0) pa_nil))) (blkOk_by (N := n_valences) (sc := defScope s_valences) (by decide +kernel)) (fun _ _ _ _ _ => (pg_name (i := 1) sc_valences.nd rfl (.inl rfl))) (fun _ _ _ _ _ => pts_nil) (fun _ _ _ _ _ => (pe_callB (sumK (K := K) rfl rfl) rfl B.sum (by decide +kernel) (pa_cons (pe_lc (own := [("_", 2), ("many", 3)]) (g := _) (tt := tYes) rfl sc_valences.nd (piL (K := K) rfl (pv 1)) (blkOk_by (N := n_valences) (sc := _) (by rfl)) (fun _ _ _ _ _ => (pgT (K := K) (n := 2) rfl rfl (pgs_cons (pg_name (i := 2) sc_valences.nd rfl (.inl rfl)) (pgs_cons (pg_name (i := 3) sc_valences.nd rfl (.inl rfl)) pgs_nil)))) (fun _ _ _ _ _ => pts_nil) (fun _ _ _ _ _ => (pv 3))) pa_nil)))))), ?_⟩
    have edg := gr.edg
    have hn64 : n ≤ 64 := gr.2.2.2.1
    refine ⟨_, rfl, g, kd, R, n, es, rfl, gr, fun H1 R' v b1 gr1 hr1 hr2 bes => ?_⟩
    obtain ⟨LB, as, rfl, _, hLB, las, hl⟩ := bes
    refine ⟨LB, rfl, ⟨_, SqL.of hLB⟩, fun L nL => ?_⟩
    refine lc_list (K := K) (a := LB) (xs := as.map V.ref) (fun i H2 => Same H1 H2 ∧ H2 L = some (.lst (((List.range i).map (valOf n es)).map V.int))) ⟨same_upd nL, upd_same⟩ (fun i H2 _ p => SqL.of (p.1 _ _ hLB)) ?_ ?_
    · rintro i x H2 hx ⟨sm, hL⟩
      have hi : i < as.length := by have := (List.getElem?_eq_some_iff.mp hx).1; rwa [List.length_map] at this
      rw [rows_get hi] at hx
      obtain rfl := Option.some.inj hx
      obtain ⟨_, ws, l, k1, _, k2, k3⟩ := hl i _ (List.getElem?_eq_getElem hi)
      have lw := k2.len
      have ll := line_le k3 fun u hu => mult_pos edg hu
      refine ⟨rfl, yes_ ?_⟩
      refine ⟨_, rfl, as[i], rfl, ⟨_, SqL.of (sm _ _ k1)⟩, fun L2 nL2 => ?_⟩
      refine lc_list (K := K) (a := as[i]) (xs := ws) (fun j H3 => Same H2 H3 ∧ H3 L2 = some (.lst (((l.take j).map fun e => (e.2 : Int) * 1).map V.int))) ⟨same_upd nL2, upd_same⟩ (fun j H3 _ p => SqL.of (p.1 _ _ (sm _ _ k1))) ?_ ?_
      · rintro j x H3 hx ⟨sm3, hL3⟩
        have hj : j < l.length := by rw [← lw]; exact (List.getElem?_eq_some_iff.mp hx).1
        obtain ⟨t, e1, e2⟩ := k2.get hj
        rw [hx] at e1
        obtain rfl := Option.some.inj e1
        refine ⟨t, _, rfl, SqT.of (sm3 _ _ (sm _ _ e2)), rfl, _, _, rfl, _, _, rfl, rfl, rfl, yes_ ?_⟩
        refine ⟨_, rfl, _, hL3, size_lt (by rw [List.length_map, List.length_map, List.length_take]; omega), same_mut sm3 nL2, ?_⟩
        rw [upd_same, List.take_add_one, List.getElem?_eq_getElem hj, List.map_append, List.map_append]
        show some (HO.lst (_ ++ [nV l[j].2])) = some (HO.lst (_ ++ [V.int ((l[j].2 : Int) * 1)]))
        rw [Int.mul_one]
      · rintro H3 ⟨sm3, hL3⟩
        rw [lw, List.take_length] at hL3
        refine ⟨L2, _, rfl, SqL.of hL3, ?_⟩
        rw [line_sum k3 (fun u hu => mult_pos edg hu) fun _ => 1]
        refine ⟨_, sm3 _ _ hL, size_lt (by rw [List.length_map, List.length_map, List.length_range]; omega), same_mut (sm.trans sm3) nL, ?_⟩
        rw [upd_same, List.range_succ, List.map_append, List.map_append]; rfl
    · rintro H2 ⟨sm, hL⟩
      rw [List.length_map, las] at hL
      exact q _ _ _ (b1.trans (Same.but sm)) (gr1.same sm) hr1 hr2 (gr1.free b1 nL) (fun r => (gr1.2.2.2.2.2.2.1 L r).1 nL) hL
def sentOf (n : Nat) (es : List Pr) (s : Nat → Int) (i : Nat) : Int := msum (mult es i) n fun u => s i - s u
def spSent (m : Memo) (C : Addr) : Sp := fun vs H Q _ => ∃ (g kd q0 : Addr) (R : Addr → Prop) (n : Nat) (es : List Pr) (ns : List Int), vs = [.ref g, .ref q0] ∧ Gr m H C g kd R n es ∧ H q0 = some (.lst (ns.map V.int)) ∧ ns.length = n ∧
  ∀ (H' : Hp) (R' : Addr → Prop) (L : Addr), But (· = kd) H H' → Gr m H' C g kd R' n es → (∀ x, R x → R' x) → (∀ x, R' x → R x ∨ H x = none) → H L = none → ¬ R' L → H' L = some (.lst (((List.range n).map (sentOf n es fun i => ns.getD i 0)).map V.int)) → Q (.ref L) H'
theorem ok_sent_by {m : Memo} (D : DefAt K mg "sent_by" "sent_by" s_sent_by) (B : Bt mg) (h_beside : Has P w K mg base CX0 1 "beside" p_beside (spBeside m C)) : Has P w K mg base CX0 2 "sent_by" p_sent_by (spSent m C) := by
  refine has_of D sc_sent_by (fun _ _ _ _ _ _ us hl => match us, hl with | [_, _], _ => rfl) (fun vs H Q E h => ?_) (fun f cdv A outer s H vs Q E hr h => ?_)
  · obtain ⟨g, kd, q0, R, n, es, ns, rfl, _⟩ := h
    rfl
  · obtain ⟨g, kd, q0, R, n, es, ns, rfl, gr, hq, hns, q⟩ := h
    refine ⟨_, (pss_cons (ps_set (i := 2) sc_sent_by.nd rfl (.inl rfl) (pe_lst pa_nil))
  (pss_cons (ps_for PassesOwn.never rfl (pi_enum rfl B.enumerate (pa_cons (pe_h h_beside hr pass0 (pa_cons (pv 0) pa_nil)) pa_nil)) (pgT (K := K) (n := 2) rfl rfl (pgs_cons (pg_name (i := 3) sc_sent_by.nd rfl (.inr rfl)) (pgs_cons (pg_name (i := 4) sc_sent_by.nd rfl (.inl rfl)) pgs_nil))) (pss_one (ps_expr (pe_bm PySem.F.plainAttrs_list PySem.F.slot_list_append PySem.F.type_list_append mt_append (pv 2) (pa_cons (pe_callB (sumK (K := K) rfl rfl) rfl B.sum (by decide +kernel) (pa_cons (pe_lc (own := [("other", 5), ("many", 6)]) (g := _) (tt := tYes) rfl sc_sent_by.nd (piL (K := K) rfl (pv 4)) (blkOk_by (N := n_sent_by) (sc := defScope s_sent_by) (by decide +kernel)) (fun _ _ _ _ _ => (pgT (K := K) (n := 2) rfl rfl (pgs_cons (pg_name (i := 5) sc_sent_by.nd rfl (.inl rfl)) (pgs_cons (pg_name (i := 6) sc_sent_by.nd rfl (.inl rfl)) pgs_nil)))) (fun _ _ _ _ _ => pts_nil) (fun _ _ _ _ _ => (pe_op op_mul (pv 6) (pe_op op_sub (pe_ix (ixL (K := K) rfl) (pv 1) (pv 3) (fun _ _ => rfl)) (pe_ix (ixL (K := K) rfl) (pv 1) (pv 5) (fun _ _ => rfl)))))) pa_nil)) pa_nil)))))
  (pss_one (ps_ret (pv 2))))), ?_⟩
    have edg := gr.edg
    have hn64 : n ≤ 64 := gr.2.2.2.1
    have he4 := gr.2.2.2.2.1
    obtain ⟨_, _, _, _, _, _, hR, kvs, hkd, _⟩ := id gr
    refine ⟨by show 0 ≤ sizeLine; decide, fun F0 nF => ?_⟩
    have s1 : Same H (upd H F0 (.lst [])) := same_upd nF
    have hF : (upd H F0 (.lst [])) F0 = some (.lst []) := upd_same
    generalize upd H F0 (.lst []) = H1 at s1 hF
    have gr1 := gr.same s1
    refine ⟨_, rfl, g, kd, R, n, es, rfl, gr1, fun H2 R' v b2 gr2 hr1 hr2 bes => ?_⟩
    obtain ⟨LB, as, rfl, rLB, hLB, las, hl⟩ := bes
    have nRF : ¬ R' F0 := fun r => (hr2 _ r).elim (fun r => (hR _ r).1 nF) fun z => by rw [hF] at z; cases z
    have hF2 := b2.lst (s1 _ _ hkd) hF
    have nkF : F0 ≠ kd := ne_of hF (s1 _ _ hkd) dict_ne.1
    refine ⟨LB, _, rfl, SqL.of hLB, ?_⟩
    have hq2 := b2.lst (s1 _ _ hkd) (s1 _ _ hq)
    have notF : ∀ x o, H x = some o → ¬ x = F0 := fun x o e z => by rw [z, nF] at e; cases e
    have nqF := notF _ _ hq
    refine for_enL (K := K) (a := LB) (xs := as.map V.ref) (fun i σ H' => ∃ (y z : Option V), σ = [some (.ref g), some (.ref q0), some (.ref F0), y, z, none, none] ∧ But (· = F0) H2 H' ∧ H' F0 = some (.lst (((List.range i).map (sentOf n es fun i => ns.getD i 0)).map V.int))) ⟨_, _, rfl, But.refl, hF2⟩ ?_ ?_ ?_
    · rintro i σ H' hi ⟨y, z, rfl, bt, hF'⟩
      exact SqL.of (bt _ _ (fun z => nRF (z ▸ rLB)) hLB)
    · rintro i x T σ H' hx ⟨y, z, rfl, bt, hF'⟩ nT
      have hi : i < as.length := by have := (List.getElem?_eq_some_iff.mp hx).1; rwa [List.length_map] at this
      rw [rows_get hi] at hx
      obtain rfl := Option.some.inj hx
      obtain ⟨ra, ws, l, k1, rt, k2, k3⟩ := hl i _ (List.getElem?_eq_getElem hi)
      refine ⟨T, _, rfl, SqT.of upd_same, rfl, _, _, rfl, _, _, rfl, rfl, ?_⟩
      have sT : Same H' (upd H' T (.tup [.int (i : Nat), .ref as[i]])) := same_upd nT
      have b4 : But (· = F0) H2 (upd H' T (.tup [.int (i : Nat), .ref as[i]])) := bt.trans (Same.but sT)
      have hF4 := sT _ _ hF'
      generalize upd H' T (.tup [.int (i : Nat), .ref as[i]]) = H4 at b4 hF4
      have nra : ∀ x, R' x → ¬ x = F0 := fun x r z => nRF (z ▸ r)
      have ha4 := b4 _ _ (nra _ ra) k1
      have hws4 : Prs H4 ws l := k2.stay (fun x o r e => b4 _ _ (nra _ r) e) rt
      have hq4 := b4 _ _ nqF hq2
      have lw := hws4.len
      have ll := line_le k3 fun u hu => mult_pos edg hu
      refine ⟨_, rfl, .inl ⟨rfl, _, SqL.of hF4⟩, ?_⟩
      refine ⟨_, rfl, as[i], rfl, ⟨_, SqL.of ha4⟩, fun L2 nL2 => ?_⟩
      refine lc_list (K := K) (a := as[i]) (xs := ws) (fun j H3 => Same H4 H3 ∧ H3 L2 = some (.lst (((l.take j).map fun e => (e.2 : Int) * (ns.getD i 0 - ns.getD e.1 0)).map V.int))) ⟨same_upd nL2, upd_same⟩ (fun j H3 _ p => SqL.of (p.1 _ _ ha4)) ?_ ?_
      · rintro j x H3 hx ⟨sm3, hL3⟩
        have hj : j < l.length := by rw [← lw]; exact (List.getElem?_eq_some_iff.mp hx).1
        obtain ⟨t, e1, e2⟩ := hws4.get hj
        rw [hx] at e1
        obtain rfl := Option.some.inj e1
        have hm : l[j].2 = mult es i l[j].1 ∧ 0 < mult es i l[j].1 := (k3.2 l[j].1 l[j].2).mp (List.getElem_mem hj)
        have hu : l[j].1 < n := mult_pos edg hm.2
        have hml : l[j].2 ≤ 2 * 400 := by rw [hm.1]; exact Nat.le_trans mult_le (by omega)
        refine ⟨t, _, rfl, SqT.of (sm3 _ _ e2), rfl, _, _, rfl, _, _, rfl, rfl, rfl, yes_ ?_⟩
        have gi : ∀ i : Nat, i < n → (ns.map V.int)[i]? = some (.int (ns.getD i 0)) := fun i hi => by
          have : i < ns.length := by omega
          rw [getMap this, List.getD_eq_getElem?_getD, List.getElem?_eq_getElem this]; rfl
        refine ⟨_, rfl, _, rfl, _, rfl, _, _, i, _, rfl, rfl, SqL.of (sm3 _ _ hq4), atI_nat (gi i (by omega)), ?_⟩
        refine ⟨_, rfl, _, rfl, _, _, l[j].1, _, rfl, rfl, SqL.of (sm3 _ _ hq4), atI_nat (gi _ hu), ?_⟩
        refine ⟨_, _, rfl, rfl, _, _, rfl, rfl, .inl ⟨by omega, by omega⟩, _, hL3, size_lt (by rw [List.length_map, List.length_map, List.length_take]; omega), same_mut sm3 nL2, ?_⟩
        rw [upd_same, List.take_add_one, List.getElem?_eq_getElem hj, List.map_append, List.map_append]; rfl
      · rintro H3 ⟨sm3, hL3⟩
        rw [lw, List.take_length] at hL3
        refine ⟨L2, _, rfl, SqL.of hL3, ?_⟩
        rw [line_sum k3 (fun u hu => mult_pos edg hu) fun u => ns.getD i 0 - ns.getD u 0]
        refine ⟨F0, _, _, rfl, rfl, sm3 _ _ hF4, size_lt (by rw [List.length_map, List.length_map, List.length_range]; omega), ?_⟩
        refine ⟨_, _, rfl, (b4.trans (Same.but sm3)).trans (But.mut (X := (· = F0)) rfl), ?_⟩
        rw [upd_same, List.range_succ, List.map_append, List.map_append]; rfl
    · rintro σ H' ⟨y, z, rfl, bt, hF'⟩
      rw [List.length_map, las] at hF'
      refine ⟨_, rfl, q _ R' _ ?_ (gr2.but bt fun x hx => by subst hx; exact ⟨nRF, nkF⟩) hr1 (fun x r => (hr2 x r).imp id s1.free) nF nRF hF'⟩
      intro b o nb e
      exact bt _ _ (notF _ _ e) (b2 _ _ nb (s1 _ _ e))
def ledOf (n : Nat) (es : List Pr) (cs ns : List Int) : List Int := (List.range n).map fun i => cs.getD i 0 - sentOf n es (fun i => ns.getD i 0) i
def spLed (m : Memo) (C : Addr) : Sp := fun vs H Q _ => ∃ (g kd c0 q0 : Addr) (R : Addr → Prop) (n : Nat) (es : List Pr) (cs ns : List Int), vs = [.ref g, .ref c0, .ref q0] ∧ Gr m H C g kd R n es ∧ H c0 = some (.lst (cs.map V.int)) ∧ H q0 = some (.lst (ns.map V.int)) ∧ cs.length = n ∧ ns.length = n ∧
  ∀ (H' : Hp) (R' : Addr → Prop) (L : Addr), But (· = kd) H H' → Gr m H' C g kd R' n es → (∀ x, R x → R' x) → (∀ x, R' x → R x ∨ H x = none) → H L = none → ¬ R' L → H' L = some (.lst ((ledOf n es cs ns).map V.int)) → Q (.ref L) H'
theorem ok_led {m : Memo} (D : DefAt K mg "led" "led" s_led) (B : Bt mg) (h_sent_by : Has P w K mg base CX0 2 "sent_by" p_sent_by (spSent m C)) : Has P w K mg base CX0 3 "led" p_led (spLed m C) := by
  refine has_of D sc_led (fun _ _ _ _ _ _ us hl => match us, hl with | [_, _, _], _ => rfl) (fun vs H Q E h => ?_) (fun f cdv A outer s H vs Q E hr h => ?_)
  · obtain ⟨g, kd, c0, q0, R, n, es, cs, ns, rfl, _⟩ := h
    rfl
  · obtain ⟨g, kd, c0, q0, R, n, es, cs, ns, rfl, gr, hc, hq, hcs, hns, q⟩ := h
    refine ⟨_, (pss_one (ps_ret (pe_lc (own := [("many", 3), ("less", 4)]) (g := _) (tt := tYes) rfl sc_led.nd (pi_zip rfl B.zip (pa_cons (pv 1) (pa_cons (pe_h h_sent_by hr pass0 (pa_cons (pv 0) (pa_cons (pv 2) pa_nil))) pa_nil))) (blkOk_by (N := n_led) (sc := defScope s_led) (by decide +kernel)) (fun _ _ _ _ _ => (pgT (K := K) (n := 2) rfl rfl (pgs_cons (pg_name (i := 3) sc_led.nd rfl (.inl rfl)) (pgs_cons (pg_name (i := 4) sc_led.nd rfl (.inl rfl)) pgs_nil)))) (fun _ _ _ _ _ => pts_nil) (fun _ _ _ _ _ => (pe_op op_sub (pv 3) (pv 4)))))), ?_⟩
    have hn64 : n ≤ 64 := gr.2.2.2.1
    obtain ⟨_, _, _, _, _, _, hR, kvs, hkd, _⟩ := id gr
    refine ⟨_, rfl, _, rfl, _, rfl, g, kd, q0, R, n, es, ns, rfl, gr, hq, hns, fun H1 R' S b1 gr1 hr1 hr2 nS nRS hS => ?_⟩
    have hc1 := b1.lst hkd hc
    refine ⟨c0, S, _, _, rfl, SqL.of hc1, SqL.of hS, fun L nL => ?_⟩
    refine lc_it (walk_zip (K := K) (a := c0) (b := S) (xs := cs.map V.int) (ys := ((List.range n).map (sentOf n es fun i => ns.getD i 0)).map V.int) (n := n) (by simp [hcs])) (fun i H2 => Same H1 H2 ∧ H2 L = some (.lst (((ledOf n es cs ns).take i).map V.int))) ⟨same_upd nL, upd_same⟩ (fun i H2 _ p => ⟨SqL.of (p.1 _ _ hc1), SqL.of (p.1 _ _ hS)⟩) ?_ ?_
    · rintro i v H2 H3 hi ⟨sm, hL⟩ ⟨T, x, y, rfl, nT, rfl, hx, hy⟩
      have hx : (cs.map V.int)[i]? = some x := hx
      have hy : (((List.range n).map (sentOf n es fun i => ns.getD i 0)).map V.int)[i]? = some y := hy
      have hci : i < cs.length := by omega
      rw [getMap hci] at hx
      rw [List.getElem?_map, List.getElem?_map, List.getElem?_range hi] at hy
      obtain rfl := Option.some.inj hx
      obtain rfl := Option.some.inj hy
      have sT : Same H2 (upd H2 T (.tup [.int cs[i], .int (sentOf n es (fun i => ns.getD i 0) i)])) := same_upd nT
      refine ⟨T, _, rfl, SqT.of upd_same, rfl, _, _, rfl, _, _, rfl, rfl, rfl, yes_ ?_⟩
      refine ⟨_, rfl, _, rfl, _, _, rfl, rfl, _, sT _ _ hL, size_lt (by rw [List.length_map, List.length_take]; omega), same_mut (sm.trans sT) nL, ?_⟩
      have e : (ledOf n es cs ns)[i]? = some (cs[i] - sentOf n es (fun i => ns.getD i 0) i) := by
        unfold ledOf
        rw [List.getElem?_map, List.getElem?_range hi]
        show some (cs.getD i 0 - _) = _
        rw [List.getD_eq_getElem?_getD, List.getElem?_eq_getElem hci]; rfl
      rw [upd_same, List.take_add_one, e, List.map_append]; rfl
    · rintro H2 ⟨sm, hL⟩
      have e : (ledOf n es cs ns).take n = ledOf n es cs ns := List.take_of_length_le (by unfold ledOf; simp)
      rw [e] at hL
      exact q _ _ _ (b1.trans (Same.but sm)) (gr1.same sm) hr1 hr2 (gr1.free b1 nL) (fun r => (gr1.2.2.2.2.2.2.1 L r).1 nL) hL
end
end G3

set_option Elab.async false
set_option linter.all false
set_option maxRecDepth 100000
set_option maxHeartbeats 1000000
namespace G3
open PySem PySem.Spec PyProof.Rows L2
/-! ## plain: the table of a graph -/
theorem sumI_eq_zero {n : Nat} {f : Nat → Int} (h : ∀ i, i < n → 0 ≤ f i) (z : sumI n f ≤ 0) : ∀ i, i < n → f i = 0 := by
  induction n with
  | zero => intro i hi; omega
  | succ n ih =>
    rw [sumI_succ] at z
    have h1 := sumI_nonneg fun i (hi : i < n) => h i (by omega)
    have h2 := h n (by omega)
    intro i hi
    by_cases c : i = n
    · rw [c]; omega
    · exact ih (fun i hi => h i (by omega)) (by omega) i (by omega)
theorem mult_sym {es : List Pr} {v u : Nat} : mult es v u = mult es u v := by unfold mult; omega
abbrev mI (es : List Pr) (v u : Nat) : Int := ((mult es v u : Nat) : Int)
theorem mI_nonneg {es : List Pr} {v u : Nat} : 0 ≤ mI es v u := Int.natCast_nonneg _
theorem mI_abs {es : List Pr} {v u : Nat} : (mI es v u).natAbs = mult es v u := Int.natAbs_natCast _
/-- what a script takes from a place -/
def lapF (n : Nat) (es : List Pr) (f : Nat → Int) (v : Nat) : Int := sumI n fun u => mI es v u * (f v - f u)
theorem lapF_sent {n : Nat} {es : List Pr} {f : Nat → Int} {v : Nat} : sentOf n es f v = lapF n es f v := rfl
def lapI (n : Nat) (es : List Pr) (v u : Nat) : Int := if v = u then sumI n (fun w => if w = v then 0 else mI es v w) else - mI es v u
theorem lap_sym {n : Nat} {es : List Pr} {v u : Nat} : lapI n es v u = lapI n es u v := by
  unfold lapI
  by_cases c : v = u
  · rw [c]
  · rw [if_neg c, if_neg (fun z => c z.symm), show mI es v u = mI es u v from congrArg Nat.cast mult_sym]
theorem lap_apply {n : Nat} {es : List Pr} {f : Nat → Int} {v : Nat} (hv : v < n) : sumI n (fun u => lapI n es v u * f u) = lapF n es f v := by
  have e1 : sumI n (fun u => lapI n es v u * f u) = sumI n (fun u => if u = v then 0 else - (mI es v u * f u)) + sumI n (fun w => if w = v then 0 else mI es v w) * f v := by
    rw [sumI_pick (i := v) hv]
    congr 1
    · refine sumI_congr fun u _ => ?_
      by_cases c : u = v
      · rw [if_pos c, if_pos c]
      · rw [if_neg c, if_neg c]
        unfold lapI
        rw [if_neg (fun z => c z.symm), Int.neg_mul]
    · unfold lapI
      rw [if_pos rfl]
  rw [e1, ← sumI_mulr, ← sumI_add]
  unfold lapF
  refine sumI_congr fun u _ => ?_
  by_cases c : u = v
  · rw [if_pos c, if_pos c, c]
    show 0 + 0 * f v = mI es v v * (f v - f v)
    rw [Int.sub_self, Int.mul_zero, Int.zero_mul]; rfl
  · rw [if_neg c, if_neg c, Int.mul_sub]
    omega
theorem lap_total {n : Nat} {es : List Pr} {f g : Nat → Int} : sumI n (fun v => lapF n es f v * g v) = sumI n (fun v => lapF n es g v * f v) := by
  have h1 : ∀ f g : Nat → Int, sumI n (fun v => lapF n es f v * g v) = sumI n (fun v => sumI n fun u => mI es v u * f v * g v) - sumI n (fun v => sumI n fun u => mI es v u * f u * g v) := fun f g => by
    rw [← sumI_sub]
    refine sumI_congr fun v _ => ?_
    unfold lapF
    rw [← sumI_mulr, ← sumI_sub]
    refine sumI_congr fun u _ => ?_
    rw [Int.mul_sub, Int.sub_mul]
  rw [h1 f g, h1 g f]
  congr 1
  · exact sumI_congr fun v _ => sumI_congr fun u _ => by rw [Int.mul_assoc, Int.mul_comm (f v), Int.mul_assoc]
  · rw [sumI_swap]
    refine sumI_congr fun u _ => sumI_congr fun v _ => ?_
    rw [show mI es v u = mI es u v from congrArg Nat.cast mult_sym, Int.mul_assoc, Int.mul_comm (f u), Int.mul_assoc]
theorem lap_square {n : Nat} {es : List Pr} {f : Nat → Int} : 2 * sumI n (fun v => lapF n es f v * f v) = sumI n (fun v => sumI n fun u => mI es v u * ((f v - f u) * (f v - f u))) := by
  have e1 : sumI n (fun v => lapF n es f v * f v) = sumI n (fun v => sumI n fun u => mI es v u * (f v * (f v - f u))) := by
    refine sumI_congr fun v _ => ?_
    unfold lapF
    rw [← sumI_mulr]
    exact sumI_congr fun u _ => by rw [Int.mul_assoc, Int.mul_comm (f v - f u)]
  have e2 : sumI n (fun v => lapF n es f v * f v) = sumI n (fun v => sumI n fun u => mI es v u * (- (f u * (f v - f u)))) := by
    rw [e1, sumI_swap]
    refine sumI_congr fun u _ => sumI_congr fun v _ => ?_
    rw [show mI es v u = mI es u v from congrArg Nat.cast mult_sym, show f v - f u = -(f u - f v) by omega, Int.mul_neg]
  have e3 : 2 * sumI n (fun v => lapF n es f v * f v) = sumI n (fun v => lapF n es f v * f v) + sumI n (fun v => lapF n es f v * f v) := by omega
  rw [e3]
  conv => lhs; lhs; rw [e1]
  rw [e2, ← sumI_add]
  refine sumI_congr fun v _ => ?_
  rw [← sumI_add]
  refine sumI_congr fun u _ => ?_
  rw [← Int.mul_add, Int.sub_mul]
  congr 1
theorem sq_nonneg (x : Int) : 0 ≤ x * x := by
  rcases Int.le_total 0 x with h | h
  · exact Int.mul_nonneg h h
  · exact Int.mul_nonneg_of_nonpos_of_nonpos h h
theorem sq_zero {x : Int} (h : x * x = 0) : x = 0 := by
  rcases Int.mul_eq_zero.mp h with z | z <;> exact z
/-- nothing is taken from anywhere by a script: it is the same everywhere -/
theorem lap_pos {n : Nat} {es : List Pr} (good : Good n es) {f : Nat → Int} (h0 : f 0 = 0) (hne : ∃ l, l < n ∧ f l ≠ 0) : 0 < sumI n fun v => lapF n es f v * f v := by
  rcases Int.lt_or_le 0 (sumI n fun v => lapF n es f v * f v) with h | h
  · exact h
  exfalso
  have h2 := lap_square (n := n) (es := es) (f := f)
  have nn : ∀ v u, 0 ≤ mI es v u * ((f v - f u) * (f v - f u)) := fun v u => Int.mul_nonneg mI_nonneg (sq_nonneg _)
  have z1 := sumI_eq_zero (n := n) (f := fun v => sumI n fun u => mI es v u * ((f v - f u) * (f v - f u))) (fun v _ => sumI_nonneg fun u _ => nn v u) (by omega)
  have z2 : ∀ v u, v < n → u < n → mI es v u * ((f v - f u) * (f v - f u)) = 0 := fun v u hv hu => sumI_eq_zero (fun u _ => nn v u) (by have := z1 v hv; omega) u hu
  have z3 : ∀ e ∈ es, f e.1 = f e.2 := fun e he => by
    obtain ⟨b1, b2⟩ := good.1 e he
    have := z2 e.1 e.2 (by omega) b2
    have hm : 0 < mult es e.1 e.2 := by
      have : 0 < es.count e := List.count_pos_iff.mpr he
      have e0 : (e.1, e.2) = e := rfl
      unfold mult
      rw [e0]; omega
    rcases Int.mul_eq_zero.mp this with z | z
    · have z : ((mult es e.1 e.2 : Nat) : Int) = 0 := z
      omega
    · have := sq_zero z
      omega
  obtain ⟨l, hl, hne⟩ := hne
  have := good.2 (fun v => decide (f v = 0)) (fun e he => by rw [z3 e he]) l hl
  rw [decide_eq_true h0] at this
  exact hne (of_decide_eq_true this)
/-- the table without place 0 -/
def lapA (n : Nat) (es : List Pr) (i j : Nat) : Int := lapI n es (i + 1) (j + 1)
theorem lapA_sym {n : Nat} {es : List Pr} {i j : Nat} : lapA n es i j = lapA n es j i := lap_sym
theorem lapA_pos {k : Nat} {es : List Pr} (good : Good (k + 1) es) : PosA k (lapA (k + 1) es) := by
  rintro m hm u ⟨l, hl, hne⟩
  have h := lap_pos good (f := fun v => if v = 0 then 0 else if v - 1 < m then u (v - 1) else 0) (if_pos rfl) ⟨l + 1, by omega, by
    show (if l + 1 = 0 then 0 else if l + 1 - 1 < m then u (l + 1 - 1) else 0) ≠ 0
    rw [if_neg (by omega), if_pos (by omega)]; exact hne⟩
  have e1 : sumI (k + 1) (fun v => lapF (k + 1) es (fun v => if v = 0 then 0 else if v - 1 < m then u (v - 1) else 0) v * (if v = 0 then 0 else if v - 1 < m then u (v - 1) else 0)) = sumI m (fun c => sumI m (fun l => u l * lapA (k + 1) es l c) * u c) := by
    rw [sumI_front]
    rw [if_pos rfl, Int.mul_zero, Int.zero_add, sumI_cut hm fun l h1 h2 => by rw [if_neg (by omega), if_neg (by omega), Int.mul_zero]]
    refine sumI_congr fun c hc => ?_
    rw [if_neg (by omega), if_pos (by omega)]
    show _ * u (c + 1 - 1) = _
    have ec : c + 1 - 1 = c := by omega
    rw [ec, ← lap_apply (by omega), sumI_front]
    rw [if_pos rfl, Int.mul_zero, Int.zero_add, sumI_cut hm fun l h1 h2 => by rw [if_neg (by omega), if_neg (by omega), Int.mul_zero]]
    congr 1
    refine sumI_congr fun l hl => ?_
    rw [if_neg (by omega), if_pos (by omega), lap_sym, Int.mul_comm]; rfl
  rw [e1] at h
  exact h
theorem sum_le {f : Nat → Nat} {b : Nat} : ∀ {n : Nat}, (∀ i, i < n → f i ≤ b) → ((List.range n).map f).sum ≤ n * b
  | 0, _ => by rw [Nat.zero_mul]; exact Nat.le_refl 0
  | n + 1, h => by
    rw [List.range_succ, List.map_append, List.sum_append, Nat.add_mul, Nat.one_mul]
    have h1 := sum_le (n := n) fun i hi => h i (by omega)
    have h2 := h n (by omega)
    show _ + (f n + 0) ≤ _
    omega
theorem lap_abs {n : Nat} {es : List Pr} (hn : n ≤ 64) (he : es.length ≤ 400) {v u : Nat} : (lapI n es v u).natAbs ≤ 51200 := by
  have hm : ∀ w, (mI es v w).natAbs ≤ 800 := fun w => by
    have := mult_le (es := es) (i := v) (u := w)
    rw [mI_abs]
    omega
  unfold lapI
  split
  · refine Nat.le_trans (sumI_abs (g := fun _ => 800) fun w _ => ?_) ?_
    · split
      · exact Nat.zero_le _
      · exact hm w
    · have := sum_le (f := fun _ => 800) (b := 800) (n := n) fun _ _ => Nat.le_refl _
      omega
  · rw [Int.natAbs_neg]
    have := hm u
    omega
def lapB : Nat := 2 ^ 22
theorem lapA_row {n : Nat} {es : List Pr} (hn : n ≤ 64) (he : es.length ≤ 400) {m : Nat} (hm : m ≤ 64) (r : Nat) : ((List.range m).map fun c => (lapA n es r c).natAbs).sum ≤ lapB := by
  have := sum_le (f := fun c => (lapA n es r c).natAbs) (b := 51200) (n := m) fun c _ => lap_abs hn he
  have h2 : m * 51200 ≤ 64 * 51200 := Nat.mul_le_mul_right _ hm
  have h3 : 64 * 51200 ≤ lapB := by decide
  omega
/-- the table that undoes the table without place 0 -/
def InvU (n : Nat) (es : List Pr) (D : Int) (U : Nat → Nat → Int) : Prop := 0 < D ∧ Bar lapB (n - 1) (lapA n es) (n - 1) D U
theorem lapF_shift {n : Nat} {es : List Pr} {f : Nat → Int} {c : Int} {v : Nat} : lapF n es (fun u => f u - c) v = lapF n es f v := by
  unfold lapF
  exact sumI_congr fun u _ => by rw [show f v - c - (f u - c) = f v - f u by omega]
theorem lapF_sum {n : Nat} {es : List Pr} {f : Nat → Int} : sumI n (lapF n es f) = 0 := by
  have h := lap_total (n := n) (es := es) (f := f) (g := fun _ => 1)
  have e1 : sumI n (fun v => lapF n es f v * 1) = sumI n (lapF n es f) := sumI_congr fun v _ => Int.mul_one _
  have e2 : sumI n (fun v => lapF n es (fun _ => 1) v * f v) = 0 := sumI_zero fun v _ => by
    have : lapF n es (fun _ => 1) v = 0 := sumI_zero fun u _ => by rw [Int.sub_self, Int.mul_zero]
    rw [this, Int.zero_mul]
  rw [e1, e2] at h
  exact h
/-- what undoes -/
def undoF (n : Nat) (U : Nat → Nat → Int) (r : Nat → Int) (v : Nat) : Int := if v = 0 then 0 else sumI (n - 1) fun m => U (v - 1) m * r (m + 1)
theorem undo_pos {n : Nat} {es : List Pr} {D : Int} {U : Nat → Nat → Int} (h : InvU n es D U) (r : Nat → Int) {v : Nat} (h0 : 0 < v) (hv : v < n) : lapF n es (undoF n U r) v = D * r v := by
  obtain ⟨k, rfl⟩ : ∃ k, n = k + 1 := ⟨n - 1, by omega⟩
  obtain ⟨l, rfl⟩ : ∃ l, v = l + 1 := ⟨v - 1, by omega⟩
  have e := h.2.solve (fun i j _ _ => lapA_sym) (fun m => r (m + 1)) (l := l) (by omega)
  rw [← lap_apply hv, sumI_front]
  have z : undoF (k + 1) U r 0 = 0 := if_pos rfl
  rw [z, Int.mul_zero, Int.zero_add]
  exact e
theorem undo_all {n : Nat} {es : List Pr} {D : Int} {U : Nat → Nat → Int} (h : InvU n es D U) (r : Nat → Int) (hr : sumI n r = 0) {v : Nat} (hv : v < n) : lapF n es (undoF n U r) v = D * r v := by
  by_cases c : v = 0
  · subst c
    obtain ⟨k, rfl⟩ : ∃ k, n = k + 1 := ⟨n - 1, by omega⟩
    have h1 := lapF_sum (n := k + 1) (es := es) (f := undoF (k + 1) U r)
    rw [sumI_front] at h1 hr
    rw [sumI_congr (g := fun i => D * r (i + 1)) fun i hi => undo_pos h r (by omega) (by omega), sumI_mul] at h1
    have : r 0 = - sumI k fun i => r (i + 1) := by omega
    rw [this, Int.mul_neg]
    omega
  · exact undo_pos h r (by omega) hv
end G3

set_option Elab.async false
set_option linter.all false
set_option maxRecDepth 100000
set_option maxHeartbeats 4000000
namespace G3
open PySem PySem.Spec PyProof.Rows L2
/-! ## steps of a heap in which a graph stands; X: things of one's own that change -/
structure StX (m : Memo) (C g kd : Addr) (n : Nat) (es : List Pr) (X : Addr → Prop) (H : Hp) (R : Addr → Prop) (H' : Hp) (R' : Addr → Prop) : Prop where
  but : ∀ a o, a ≠ kd → ¬ X a → H a = some o → H' a = some o
  gr : Gr m H' C g kd R' n es
  up : ∀ x, R x → R' x
  fr : ∀ x, R' x → R x ∨ H x = none
  own : ∀ x, X x → ¬ R' x ∧ x ≠ kd ∧ H' x ≠ none
  nn : ∀ x, H' x = none → H x = none
abbrev Stp (m : Memo) (C g kd : Addr) (n : Nat) (es : List Pr) (H : Hp) (R : Addr → Prop) (H' : Hp) (R' : Addr → Prop) : Prop := StX m C g kd n es (fun _ => False) H R H' R'
section
variable {m : Memo} {C g kd : Addr} {n : Nat} {es : List Pr} {X Y : Addr → Prop} {H H1 H2 H' : Hp} {R R1 R2 R' : Addr → Prop} {a : Addr} {o : HO}
theorem Gr.in_ {x : Addr} (h : Gr m H C g kd R n es) (r : R x) : H x ≠ none := (h.2.2.2.2.2.2.1 x r).1
theorem Gr.nkd {x : Addr} (h : Gr m H C g kd R n es) (r : R x) : x ≠ kd := (h.2.2.2.2.2.2.1 x r).2
theorem Gr.kdo (h : Gr m H C g kd R n es) : ∃ kvs, H kd = some (.dK kvs) := by
  obtain ⟨_, _, _, _, _, _, _, kvs, k, _⟩ := h
  exact ⟨kvs, k⟩
theorem Gr.kdn (h : Gr m H C g kd R n es) : H kd ≠ none := by
  obtain ⟨kvs, k⟩ := h.kdo
  rw [k]; exact fun z => nomatch z
theorem stp_of (b : But (· = kd) H H') (gr : Gr m H' C g kd R' n es) (up : ∀ x, R x → R' x) (fr : ∀ x, R' x → R x ∨ H x = none) : Stp m C g kd n es H R H' R' :=
  ⟨fun x o h1 _ e => b x o h1 e, gr, up, fr, fun _ z => z.elim, fun x z => by
    cases e : H x with
    | none => rfl
    | some o =>
      by_cases c : x = kd
      · rw [c] at z; exact absurd z gr.kdn
      · rw [b x o c e] at z; cases z⟩
theorem StX.to (s : Stp m C g kd n es H R H' R') : But (· = kd) H H' := fun x o h e => s.but x o h (fun z => z) e
theorem StX.refl (gr : Gr m H C g kd R n es) : Stp m C g kd n es H R H R := ⟨fun _ _ _ _ e => e, gr, fun _ r => r, fun _ r => .inl r, fun _ z => z.elim, fun _ e => e⟩
theorem StX.call (s : StX m C g kd n es X H R H1 R1) (c : Stp m C g kd n es H1 R1 H2 R2) : StX m C g kd n es X H R H2 R2 :=
  ⟨fun x o h1 h2 e => c.but x o h1 (fun z => z) (s.but x o h1 h2 e), c.gr, fun x r => c.up x (s.up x r), fun x r => (c.fr x r).elim (s.fr x) fun z => .inr (s.nn x z),
    fun x hx => ⟨fun r => (c.fr x r).elim (s.own x hx).1 (s.own x hx).2.2, (s.own x hx).2.1, fun z => (s.own x hx).2.2 (c.nn x z)⟩, fun x z => s.nn x (c.nn x z)⟩
theorem StX.alloc (s : StX m C g kd n es X H R H1 R1) (e : Same H1 H2) : StX m C g kd n es X H R H2 R1 :=
  ⟨fun x o h1 h2 z => e _ _ (s.but x o h1 h2 z), s.gr.same e, s.up, s.fr, fun x hx => ⟨(s.own x hx).1, (s.own x hx).2.1, fun z => (s.own x hx).2.2 (e.free z)⟩, fun x z => s.nn x (e.free z)⟩
theorem StX.new (s : StX m C g kd n es X H R H1 R1) (na : H1 a = none) : StX m C g kd n es (fun x => X x ∨ x = a) H R (upd H1 a o) R1 := by
  have t := s.alloc (same_upd (o := o) na)
  refine ⟨fun x o h1 h2 z => t.but x o h1 (fun y => h2 (.inl y)) z, t.gr, t.up, t.fr, fun x hx => ?_, t.nn⟩
  rcases hx with hx | rfl
  · exact t.own x hx
  · exact ⟨fun r => s.gr.in_ r na, fun z => s.gr.kdn (z ▸ na), by rw [upd_same]; exact fun z => nomatch z⟩
theorem StX.set (s : StX m C g kd n es X H R H1 R1) (hx : X a) : StX m C g kd n es X H R (upd H1 a o) R1 := by
  have ne : ∀ x, ¬ X x → x ≠ a := fun x h z => h (z ▸ hx)
  obtain ⟨w1, w2, w3⟩ := s.own a hx
  refine ⟨fun x o h1 h2 z => by rw [upd_ne (ne x h2)]; exact s.but x o h1 h2 z, s.gr.stay fun x o h z => ?_, s.up, s.fr, fun x hx => ⟨(s.own x hx).1, (s.own x hx).2.1, ?_⟩, fun x z => ?_⟩
  · rw [upd_ne]; exact z
    rintro rfl
    exact h.elim w1 w2
  · by_cases c : x = a
    · rw [c, upd_same]; exact fun z => nomatch z
    · rw [upd_ne c]; exact (s.own x hx).2.2
  · by_cases c : x = a
    · rw [c, upd_same] at z; cases z
    · rw [upd_ne c] at z; exact s.nn x z
theorem StX.wide (s : StX m C g kd n es X H R H1 R1) (h : ∀ x, X x → Y x) (h2 : ∀ x, Y x → ¬ R1 x ∧ x ≠ kd ∧ H1 x ≠ none) : StX m C g kd n es Y H R H1 R1 :=
  ⟨fun x o a b e => s.but x o a (fun z => b (h x z)) e, s.gr, s.up, s.fr, h2, s.nn⟩
theorem StX.drop (s : StX m C g kd n es X H R H1 R1) (h : ∀ x, X x → H x = none) : Stp m C g kd n es H R H1 R1 :=
  ⟨fun x o a _ e => s.but x o a (fun z => by rw [h x z] at e; cases e) e, s.gr, s.up, s.fr, fun _ z => z.elim, s.nn⟩
theorem StX.less (s : StX m C g kd n es X H R H1 R1) (h : ∀ x, Y x → X x) (h2 : ∀ x, X x → Y x ∨ H x = none) : StX m C g kd n es Y H R H1 R1 :=
  ⟨fun x o a b e => s.but x o a (fun z => (h2 x z).elim b fun y => by rw [y] at e; cases e) e, s.gr, s.up, s.fr, fun x z => s.own x (h x z), s.nn⟩
theorem StX.trans (s : StX m C g kd n es X H R H1 R1) (t : StX m C g kd n es X H1 R1 H2 R2) : StX m C g kd n es X H R H2 R2 :=
  ⟨fun x o a b e => t.but x o a b (s.but x o a b e), t.gr, fun x r => t.up x (s.up x r), fun x r => (t.fr x r).elim (s.fr x) fun z => .inr (s.nn x z), t.own, fun x z => s.nn x (t.nn x z)⟩
theorem StX.here (s : StX m C g kd n es X H R H1 R1) : StX m C g kd n es X H1 R1 H1 R1 := (StX.refl s.gr).wide (fun _ z => z.elim) s.own
/-- what is seen of older things -/
theorem StX.lst {x : Addr} {xs : List V} (s : StX m C g kd n es X H R H1 R1) (h0 : Gr m H C g kd R n es) (hn : ¬ X x) (h : H x = some (.lst xs)) : H1 x = some (.lst xs) := by
  obtain ⟨kvs, k⟩ := h0.kdo
  exact s.but x _ (ne_of h k dict_ne.1) hn h
theorem StX.tup {x : Addr} {xs : List V} (s : StX m C g kd n es X H R H1 R1) (h0 : Gr m H C g kd R n es) (hn : ¬ X x) (h : H x = some (.tup xs)) : H1 x = some (.tup xs) := by
  obtain ⟨kvs, k⟩ := h0.kdo
  exact s.but x _ (ne_of h k dict_ne.2) hn h
end
theorem set_range {n a : Nat} {f : Nat → V} {v : V} : ((List.range n).map f).set a v = (List.range n).map fun u => if u = a then v else f u := by
  apply List.ext_getElem?
  intro i
  by_cases hi : i < n
  · by_cases c : a = i
    · subst c
      rw [List.getElem?_set_self (by rw [List.length_map, List.length_range]; exact hi), List.getElem?_map, List.getElem?_range hi]
      show some v = some (if a = a then v else f a)
      rw [if_pos rfl]
    · rw [List.getElem?_set_ne c, List.getElem?_map, List.getElem?_map, List.getElem?_range hi]
      show some (f i) = some (if i = a then v else f i)
      rw [if_neg (fun z => c z.symm)]
  · rw [List.getElem?_eq_none (by rw [List.length_set, List.length_map, List.length_range]; omega), List.getElem?_eq_none (by rw [List.length_map, List.length_range]; omega)]
theorem range_get {n i : Nat} {f : Nat → V} (h : i < n) : ((List.range n).map f)[i]? = some (f i) := by
  rw [List.getElem?_map, List.getElem?_range h]; rfl
theorem rep_range (v : V) : ∀ n : Nat, (List.replicate n [v]).flatten = (List.range n).map fun _ => v
  | 0 => rfl
  | n + 1 => by rw [List.replicate_succ', List.flatten_append, rep_range v n, List.range_succ, List.map_append]; rfl
theorem cut_from {xs : List V} {f : Nat} (h : f ≤ xs.length) : cutV xs (some (f : Int)) none = xs.drop f := by
  unfold cutV
  have e : HT.sIx xs.length 0 (some (f : Int)) = min f xs.length := HT.sIx_nat xs.length 0 f
  rw [e, HT.sIx_none, Nat.min_eq_left h]
  exact List.take_of_length_le (by rw [List.length_drop]; omega)
theorem drop_range {n f : Nat} {g : Nat → V} : ((List.range n).map g).drop f = (List.range (n - f)).map fun c => g (c + f) := by
  apply List.ext_getElem?
  intro i
  rw [List.getElem?_drop]
  by_cases hi : i < n - f
  · rw [range_get (show f + i < n by omega), range_get hi, Nat.add_comm]
  · rw [List.getElem?_eq_none (by rw [List.length_map, List.length_range]; omega), List.getElem?_eq_none (by rw [List.length_map, List.length_range]; omega)]
theorem mult_self {n : Nat} {es : List Pr} (good : Good n es) (v : Nat) : mult es v v = 0 := by
  unfold mult
  have : es.count (v, v) = 0 := List.count_eq_zero.mpr fun h => by
    have := good.1 _ h
    exact absurd this.1 (Nat.lt_irrefl _)
  omega
/-- a line of the table while it is laid -/
def lineF (p : Nat) (l : List Pr) (u : Nat) : Int := if u = p then (l.map fun e => (e.2 : Int) * 1).sum else - (l.map fun e => (e.2 : Int) * (if e.1 = u then 1 else 0)).sum
theorem lineF_end {n : Nat} {es : List Pr} (good : Good n es) {p : Nat} {l : List Pr} (h : IsLine (mult es p) l) {u : Nat} (hu : u < n) : lineF p l u = lapI n es p u := by
  have hm : ∀ u, 0 < mult es p u → u < n := fun u hu => mult_pos (fun e he => by have := good.1 e he; omega) hu
  unfold lineF lapI
  by_cases c : u = p
  · rw [if_pos c, if_pos c.symm, line_sum h hm (fun _ => 1)]
    show sumI n (fun w => mI es p w * 1) = _
    refine sumI_congr fun w _ => ?_
    by_cases d : w = p
    · rw [if_pos d, d, Int.mul_one]
      show ((mult es p p : Nat) : Int) = 0
      rw [mult_self good]; rfl
    · rw [if_neg d, Int.mul_one]
  · rw [if_neg c, if_neg (fun z => c z.symm), line_sum h hm (fun x => if x = u then 1 else 0)]
    congr 1
    show sumI n (fun w => mI es p w * (if w = u then 1 else 0)) = _
    rw [sumI_congr (g := fun w => if w = u then mI es p w else 0) fun w _ => by
      by_cases d : w = u
      · rw [if_pos d, if_pos d, Int.mul_one]
      · rw [if_neg d, if_neg d, Int.mul_zero]]
    exact sumI_delta (f := fun w => mI es p w) hu
theorem line_fresh {m : Nat → Nat} {l : List Pr} {j : Nat} {e : Pr} (h : IsLine m l) (he : l[j]? = some e) : ((l.take j).map fun x => (x.2 : Int) * (if x.1 = e.1 then 1 else 0)).sum = 0 := by
  have z : ∀ x ∈ l.take j, x.1 ≠ e.1 := fun x hx z => by
    obtain ⟨i, hi, rfl⟩ := List.getElem_of_mem hx
    rw [List.length_take] at hi
    rw [List.getElem_take] at z
    obtain ⟨hj, rfl⟩ := List.getElem?_eq_some_iff.mp he
    have := List.pairwise_iff_getElem.mp h.1 i j (by rw [List.length_map]; omega) (by rw [List.length_map]; omega) (by omega)
    rw [List.getElem_map, List.getElem_map] at this
    omega
  generalize l.take j = k at z
  induction k with
  | nil => rfl
  | cons a k ih =>
    rw [List.map_cons, List.sum_cons, ih fun x hx => z x (List.mem_cons_of_mem _ hx), if_neg (z a (List.mem_cons_self ..)), Int.mul_zero]; rfl
theorem tNil_ {σ : L2.St} {H : Hp} {Q : List V → Hp → Prop} (h : Q [] H) : tNil σ H Q := h
theorem nx_ {t : L2.St → Hp → Prop} {D : Ends} {σ : L2.St} {H : Hp} (h : t σ H) : ({ D with nx := t } : Ends).nx σ H := h
theorem zadd (f i : Nat) : V.int ((f : Int) + (i : Int)) = nV (f + i) := congrArg V.int (Int.natCast_add f i).symm
section
variable {P : Program} {w : World} {K : PySem.W.Frag} {mg : Str → Option Value} {base : Heap} {C : Addr}
abbrev n_laplace_rows : List Str := ["graph", "first", "rows", "place", "line", "other", "many"]
abbrev p_laplace_rows : List Str := ["graph", "first"]
theorem sc_laplace_rows : FnScope n_laplace_rows p_laplace_rows (defScope s_laplace_rows) := ⟨rfl, rfl, rfl, by decide +kernel, rfl, by decide +kernel, by decide +kernel⟩
def spLRows (m : Memo) (C : Addr) : Sp := fun vs H Q _ => ∃ (g kd : Addr) (R : Addr → Prop) (n : Nat) (es : List Pr) (f : Nat), vs = [.ref g, nV f] ∧ Gr m H C g kd R n es ∧ f ≤ n ∧
  ∀ (H' : Hp) (R' : Addr → Prop) (L : Addr) (as : List Addr), Stp m C g kd n es H R H' R' → H L = none → H' L = some (.lst (as.map V.ref)) → as.length = n - f → (∀ i a, as[i]? = some a → H a = none ∧ H' a = some (.lst ((List.range (n - f)).map fun c => .int (lapI n es (i + f) (c + f))))) → Q (.ref L) H'
theorem ok_laplace_rows {m : Memo} (D : DefAt K mg "laplace_rows" "laplace_rows" s_laplace_rows) (B : Bt mg) (G : GraphC K C) (h_beside : Has P w K mg base CX0 1 "beside" p_beside (spBeside m C)) : Has P w K mg base CX0 2 "laplace_rows" p_laplace_rows (spLRows m C) := by
  refine has_of D sc_laplace_rows (fun _ _ _ _ _ _ us hl => match us, hl with | [_, _], _ => rfl) (fun vs H Q E h => ?_) (fun f cdv A outer s H vs Q E hr h => ?_)
  · obtain ⟨g, kd, R, n, es, f, rfl, _⟩ := h
    rfl
  · obtain ⟨g, kd, R, n, es, f0, rfl, gr, hf, q⟩ := h
    refine ⟨_, (pss_cons (ps_set (i := 2) sc_laplace_rows.nd rfl (.inl rfl) (pe_lst pa_nil))
  (pss_cons (ps_for PassesOwn.never rfl (pi_range2 rfl B.range (pa_cons (pv 1) (pa_cons (fldK (K := K) rfl (pv 0) rfl) pa_nil))) (pg_name (i := 3) sc_laplace_rows.nd rfl (.inl rfl)) (pss_cons (ps_set (i := 4) sc_laplace_rows.nd rfl (.inl rfl) (pe_op op_rep (pe_lst (pa_cons pe_int pa_nil)) (fldK (K := K) rfl (pv 0) rfl)))
  (pss_cons (ps_for PassesOwn.never rfl (piL (K := K) rfl (pe_ix (ixL (K := K) rfl) (pe_h h_beside hr pass0 (pa_cons (pv 0) pa_nil)) (pv 3) (fun _ _ => rfl))) (pgT (K := K) (n := 2) rfl rfl (pgs_cons (pg_name (i := 5) sc_laplace_rows.nd rfl (.inl rfl)) (pgs_cons (pg_name (i := 6) sc_laplace_rows.nd rfl (.inl rfl)) pgs_nil))) (pss_cons (ps_asg (pe_un un_neg (pv 6)) (pg_sub (pv 4) (pv 5) set_list))
  (pss_one (ps_asg (pe_op op_add (pe_ix (ixL (K := K) rfl) (pv 4) (pv 3) (fun _ _ => rfl)) (pv 6)) (pg_sub (pv 4) (pv 3) set_list)))))
  (pss_one (ps_expr (pe_bm PySem.F.plainAttrs_list PySem.F.slot_list_append PySem.F.type_list_append mt_append (pv 2) (pa_cons (pe_slice (slL (K := K) rfl) (pv 4) (po_some (pv 1)) po_none) pa_nil)))))))
  (pss_one (ps_ret (pv 2))))), ?_⟩
    have edg := gr.edg
    have good := gr.2.1
    have hn64 : n ≤ 64 := gr.2.2.2.1
    have he4 := gr.2.2.2.2.1
    obtain ⟨⟨dx, eT, vs, hg, _, _, rg, _, _⟩, _⟩ := id gr
    refine ⟨by show 0 ≤ sizeLine; decide, fun F0 nF => ?_⟩
    have st0 := (StX.refl gr).new (o := .lst []) nF
    have hF : (upd H F0 (.lst [])) F0 = some (.lst []) := upd_same
    refine ⟨_, rfl, _, rfl, g, C, dx, _, _, rfl, (same_upd nF) _ _ hg, G.cls, G.n, rfl, ?_⟩
    refine tNil_ ?_
    refine ⟨_, _, rfl, by omega, ?_⟩
    refine for_range (lo := (f0 : Int)) (n := ((n : Int) - (f0 : Int)).toNat) (fun i σ H' => ∃ (y3 y4 y5 y6 : Option V) (R' : Addr → Prop) (as : List Addr), σ = [some (.ref g), some (nV f0), some (.ref F0), y3, y4, y5, y6] ∧ StX m C g kd n es (fun x => x = F0) H R H' R' ∧ H' F0 = some (.lst (as.map V.ref)) ∧ as.length = i ∧
      (∀ i a, as[i]? = some a → H a = none ∧ a ≠ F0 ∧ H' a = some (.lst ((List.range (n - f0)).map fun c => .int (lapI n es (i + f0) (c + f0)))))) ?_ ?_ ?_
    · exact ⟨_, _, _, _, R, [], rfl, st0.less (fun x z => .inr z) (fun x z => z.elim (fun z => z.elim) .inl), hF, rfl, fun i a z => nomatch z⟩
    · rintro i σ H1 hi ⟨y3, y4, y5, y6, R1, as, rfl, st, hF1, las, rows⟩
      have hi : f0 + i < n := by omega
      have hg1 := st.but _ _ (ne_of hg gr.kdo.choose_spec ins_dK) (fun z => by rw [z, nF] at hg; cases hg) hg
      rw [zadd]
      -- line
      refine ⟨by show 1 ≤ sizeLine; decide, fun r0 nr0 => ?_⟩
      have a1 : Same H1 (upd H1 r0 (.lst [.int 0])) := same_upd nr0
      have hr0 : (upd H1 r0 (.lst [.int 0])) r0 = some (.lst [.int 0]) := upd_same
      refine ⟨_, rfl, g, C, dx, _, _, rfl, a1 _ _ hg1, G.cls, G.n, rfl, ?_⟩
      refine ⟨r0, n, [.int 0], rfl, rfl, hr0, by omega, by omega, size_le (by show 1 * _ ≤ _; omega), fun L1 nL1 => ?_⟩
      rw [Int.toNat_natCast, rep_range]
      have t0 := (st.here.alloc a1).new (o := .lst ((List.range n).map fun _ => .int 0)) nL1
      have nL1' : H1 L1 = none := a1.free nL1
      have hL1 : (upd (upd H1 r0 (.lst [.int 0])) L1 (.lst ((List.range n).map fun _ => .int 0))) L1 = some (.lst ((List.range n).map fun _ => .int 0)) := upd_same
      have s12 : Same H1 (upd (upd H1 r0 (.lst [.int 0])) L1 (.lst ((List.range n).map fun _ => .int 0))) := a1.trans (same_upd nL1)
      generalize upd (upd H1 r0 (.lst [.int 0])) L1 (.lst ((List.range n).map fun _ => .int 0)) = H2 at t0 hL1 s12 ⊢
      refine nx_ ?_
      -- beside
      have nF0 : H1 F0 ≠ none := by rw [hF1]; exact fun z => nomatch z
      have nL1F : L1 ≠ F0 := fun z => nF0 (z ▸ nL1')
      refine ⟨_, rfl, g, kd, R1, n, es, rfl, t0.gr, fun H3 R3 v b3 gr3 up3 fr3 bes => ?_⟩
      have c3 := t0.call (stp_of b3 gr3 up3 fr3)
      obtain ⟨LB, ls, rfl, rLB, hLB, lls, hl⟩ := bes
      have hL3 := b3 _ _ (t0.own L1 (.inr rfl)).2.1 hL1
      have ip : f0 + i < ls.length := by omega
      obtain ⟨ra, ws, l, k1, rt, k2, k3⟩ := hl (f0 + i) _ (List.getElem?_eq_getElem ip)
      refine ⟨_, rfl, _, _, f0 + i, .ref ls[f0 + i], rfl, rfl, SqL.of hLB, atI_nat (rows_get ip), ls[f0 + i], rfl, ⟨_, SqL.of k1⟩, ?_⟩
      have nrL : ∀ x, R3 x → ¬ x = L1 := fun x r z => (c3.own L1 (.inr rfl)).1 (z ▸ r)
      refine for_list (K := K) (a := ls[f0 + i]) (xs := ws) (fun j σ H' => ∃ (y5 y6 : Option V), σ = [some (.ref g), some (nV f0), some (.ref F0), some (nV (f0 + i)), some (.ref L1), y5, y6] ∧ StX m C g kd n es (fun x => (False ∨ x = F0) ∨ x = L1) H1 R1 H' R3 ∧ But (· = L1) H3 H' ∧ H' L1 = some (.lst ((List.range n).map fun u => .int (lineF (f0 + i) (l.take j) u)))) ?_ ?_ ?_ ?_
      · refine ⟨_, _, rfl, c3.wide (fun x z => z.elim (fun z => .inl (.inr z)) .inr) fun x z => ?_, But.refl, ?_⟩
        · rcases z with (z | z) | z
          · exact z.elim
          · exact c3.own x (.inl z)
          · exact c3.own x (.inr z)
        · rw [hL3]
          congr 2
          refine List.map_congr_left fun u _ => ?_
          show V.int 0 = V.int (lineF (f0 + i) [] u)
          unfold lineF
          split <;> rfl
      · rintro j σ H' _ ⟨_, _, _, _, bt, _⟩
        exact SqL.of (bt _ _ (nrL _ ra) k1)
      · rintro j x σ H' hx ⟨y5, y6, rfl, sx, bt, hL'⟩
        have hj : j < l.length := by rw [← k2.len]; exact (List.getElem?_eq_some_iff.mp hx).1
        obtain ⟨t, e1, e2⟩ := k2.get hj
        rw [hx] at e1
        obtain rfl := Option.some.inj e1
        have rt' : R3 t := rt t (by
          have := List.mem_of_getElem? hx
          exact this)
        have ht := bt _ _ (nrL _ rt') e2
        have hm : l[j].2 = mult es (f0 + i) l[j].1 ∧ 0 < mult es (f0 + i) l[j].1 := (k3.2 l[j].1 l[j].2).mp (List.getElem_mem hj)
        have hu : l[j].1 < n := mult_pos edg hm.2
        have nup : l[j].1 ≠ f0 + i := fun z => by
          have := hm.2
          rw [z, mult_self good] at this
          omega
        have hje : l[j]? = some l[j] := List.getElem?_eq_getElem hj
        have fre := line_fresh k3 hje
        generalize l[j] = e at ht hu nup hje fre
        obtain ⟨u, c⟩ := e
        refine ⟨t, _, rfl, SqT.of ht, rfl, _, _, rfl, _, _, rfl, rfl, ?_⟩
        refine ⟨_, rfl, _, rfl, _, rfl, _, rfl, L1, _, _, u, rfl, rfl, hL', Evl.ixN_nat (by rw [List.length_map, List.length_range]; exact hu), ?_⟩
        rw [set_range]
        have m1 : (upd H' L1 (.lst ((List.range n).map fun w => if w = u then .int (-(c : Int)) else .int (lineF (f0 + i) (l.take j) w)))) L1 = some (.lst ((List.range n).map fun w => if w = u then .int (-(c : Int)) else .int (lineF (f0 + i) (l.take j) w))) := upd_same
        have hgp : ((List.range n).map fun w => if w = u then V.int (-(c : Int)) else .int (lineF (f0 + i) (l.take j) w))[f0 + i]? = some (.int (lineF (f0 + i) (l.take j) (f0 + i))) := by
          rw [range_get hi, if_neg (fun z => nup z.symm)]
        refine ⟨_, rfl, _, rfl, _, _, f0 + i, _, rfl, rfl, SqL.of m1, atI_nat hgp, _, rfl, _, _, rfl, rfl, ?_⟩
        refine ⟨_, rfl, _, rfl, L1, _, _, f0 + i, rfl, rfl, m1, Evl.ixN_nat (by rw [List.length_map, List.length_range]; exact hi), ?_⟩
        rw [set_range]
        refine ⟨_, _, rfl, (sx.set (.inr rfl)).set (.inr rfl), (bt.trans (But.mut rfl)).trans (But.mut rfl), ?_⟩
        rw [upd_same]
        congr 2
        refine List.map_congr_left fun w _ => ?_
        have et : l.take (j + 1) = l.take j ++ [(u, c)] := by rw [List.take_add_one, hje]; rfl
        rw [et]
        by_cases d : w = f0 + i
        · rw [if_pos d]
          unfold lineF
          rw [if_pos rfl, if_pos d, List.map_append, List.sum_append]
          show V.int (_ + (c : Int)) = V.int (_ + ((c : Int) * 1 + 0))
          rw [Int.mul_one, Int.add_zero]
        · rw [if_neg d]
          unfold lineF
          rw [if_neg d, if_neg d, List.map_append, List.sum_append]
          by_cases d2 : w = u
          · subst d2
            rw [if_pos rfl]
            have fre : ((l.take j).map fun x => (x.2 : Int) * (if x.1 = w then 1 else 0)).sum = 0 := fre
            rw [fre]
            show V.int (-(c : Int)) = V.int (-(0 + ((c : Int) * (if w = w then 1 else 0) + 0)))
            rw [if_pos rfl, Int.mul_one, Int.add_zero, Int.zero_add]
          · rw [if_neg d2]
            show V.int _ = V.int (-(_ + ((c : Int) * (if u = w then 1 else 0) + 0)))
            rw [if_neg (fun z => d2 z.symm), Int.mul_zero, Int.add_zero, Int.add_zero]
      · rintro σ H4 ⟨y5, y6, rfl, sx, bt, hL4⟩
        rw [k2.len, List.take_length] at hL4
        have eL : (List.range n).map (fun u => V.int (lineF (f0 + i) l u)) = (List.range n).map fun u => .int (lapI n es (f0 + i) u) := List.map_congr_left fun u hu => by rw [lineF_end good k3 (List.mem_range.mp hu)]
        rw [eL] at hL4
        have hF4 := sx.own F0 (.inl (.inr rfl))
        have hF4' : H4 F0 = some (.lst (as.map V.ref)) := bt _ _ (fun z => nL1F z.symm) (b3 _ _ hF4.2.1 (s12 _ _ hF1))
        refine nx_ ?_
        refine ⟨_, rfl, .inl ⟨rfl, _, SqL.of hF4'⟩, _, rfl, _, rfl, _, rfl, L1, _, rfl, SqL.of hL4, fun r nr => ?_⟩
        rw [cut_from (by rw [List.length_map, List.length_range]; exact hf), drop_range]
        have ar : Same H4 (upd H4 r (.lst ((List.range (n - f0)).map fun c => .int (lapI n es (f0 + i) (c + f0))))) := same_upd nr
        have hr' : (upd H4 r (.lst ((List.range (n - f0)).map fun c => .int (lapI n es (f0 + i) (c + f0))))) r = some (.lst ((List.range (n - f0)).map fun c => .int (lapI n es (f0 + i) (c + f0)))) := upd_same
        have sr := sx.alloc ar
        have nF4 : H4 F0 ≠ none := by rw [hF4']; exact fun z => nomatch z
        have nrF : r ≠ F0 := fun z => nF4 (z ▸ nr)
        have hF5 := ar _ _ hF4'
        generalize upd H4 r (.lst ((List.range (n - f0)).map fun c => .int (lapI n es (f0 + i) (c + f0)))) = H5 at ar hr' sr hF5 ⊢
        refine ⟨F0, _, _, rfl, rfl, hF5, size_lt (by rw [List.length_map]; omega), ?_⟩
        have sf := (sr.set (o := .lst (as.map V.ref ++ [.ref r])) (.inl (.inr rfl))).less (Y := fun x => x = F0) (fun x z => .inl (.inr z)) (fun x z => z.elim (fun z => z.elim (fun z => z.elim) .inl) fun z => .inr (z ▸ nL1'))
        refine ⟨_, _, _, _, R3, as ++ [r], rfl, st.trans sf, by rw [upd_same, List.map_append]; rfl, by rw [List.length_append, las]; rfl, fun k a hk => ?_⟩
        have hst := st.nn
        by_cases lk : k < as.length
        · rw [List.getElem?_append_left lk] at hk
          obtain ⟨w1, w2, w3⟩ := rows k a hk
          exact ⟨w1, w2, sf.lst st.gr w2 w3⟩
        · have lk2 := (List.getElem?_eq_some_iff.mp hk).1
          rw [List.length_append] at lk2
          have : k = as.length := by simp at lk2; omega
          subst this
          rw [List.getElem?_append_right (Nat.le_refl _), Nat.sub_self] at hk
          obtain rfl : r = a := Option.some.inj hk
          refine ⟨hst _ (sx.nn _ nr), nrF, ?_⟩
          rw [upd_ne nrF, hr', las, Nat.add_comm f0 i]
    · rintro σ H1 ⟨y3, y4, y5, y6, R1, as, rfl, st, hF1, las, rows⟩
      have st' := st.drop (fun x z => z ▸ nF)
      exact ⟨_, rfl, q H1 R1 F0 as st' nF hF1 (by omega) fun i a z => ⟨(rows i a z).1, (rows i a z).2.2⟩⟩
end
end G3

set_option Elab.async false
set_option linter.all false
set_option maxRecDepth 100000
set_option maxHeartbeats 2000000
namespace G3
open PySem PySem.Spec PyProof.Rows L2
section
variable {P : Program} {w : World} {K : PySem.W.Frag} {mg : Str → Option Value} {base : Heap} {C : Addr}
abbrev n_law_pool : List Str := ["script", "cell"]
abbrev p_law_pool : List Str := ["script"]
theorem sc_law_pool : FnScope n_law_pool p_law_pool (defScope s_law_pool) := ⟨rfl, rfl, rfl, by decide +kernel, rfl, by decide +kernel, by decide +kernel⟩
abbrev n_law_below : List Str := ["pool", "many", "found", "turn"]
abbrev p_law_below : List Str := ["pool", "many"]
theorem sc_law_below : FnScope n_law_below p_law_below (defScope s_law_below) := ⟨rfl, rfl, rfl, by decide +kernel, rfl, by decide +kernel, by decide +kernel⟩
abbrev n_law_power : List Str := ["base", "many", "found", "turn"]
abbrev p_law_power : List Str := ["base", "many"]
theorem sc_law_power : FnScope n_law_power p_law_power (defScope s_law_power) := ⟨rfl, rfl, rfl, by decide +kernel, rfl, by decide +kernel, by decide +kernel⟩
abbrev n_law_great_chips : List Str := ["pool", "n", "figures", "size", "place"]
abbrev p_law_great_chips : List Str := ["pool", "n", "figures"]
theorem sc_law_great_chips : FnScope n_law_great_chips p_law_great_chips (defScope s_law_great_chips) := ⟨rfl, rfl, rfl, by decide +kernel, rfl, by decide +kernel, by decide +kernel⟩
def spPool0 (K : PySem.W.Frag) : Sp := fun vs H Q _ => ∃ (a : Addr) (ns : List Int), vs = [.ref a] ∧ SqL K H a (ns.map V.int) ∧ ns.length ≤ 10000 ∧
  ∀ (H' : Hp) (p c : Addr) (ms : List Int), Same H H' → H p = none → H' p = some (.lst (poolL c 0 0 17)) → H' c = some (.lst (ms.map V.int)) → (∀ x ∈ ms, (0 : Int) ≤ x) → Q (.ref p) H'
theorem ok_pool0 (D : DefAt K mg "_law_pool" "_law_pool" s_law_pool) (B : Bt mg) : Has P w K mg base CX0 1 "_law_pool" p_law_pool (spPool0 K) := by
  refine has_of D sc_law_pool (fun _ _ _ _ _ _ us hl => match us, hl with | [_], _ => rfl) (fun vs H Q E h => ?_) (fun f cdv A outer s H vs Q E hr h => ?_)
  · obtain ⟨a, ns, rfl, _⟩ := h
    rfl
  · obtain ⟨a, ns, rfl, ha, hl, q⟩ := h
    refine ⟨_, (pss_one (ps_ret (pe_lst (pa_cons (pe_lc (own := [("cell", 1)]) (g := gName 1) (tt := tYes) rfl sc_law_pool.nd (piL (K := K) rfl (pv 0)) (blkOk_by (N := n_law_pool) (sc := defScope s_law_pool) (by decide +kernel)) (fun _ _ _ _ _ => (pg_name (i := 1) sc_law_pool.nd rfl (.inl rfl))) (fun _ _ _ _ _ => pts_nil) (fun _ _ _ _ _ => (pe_ifExp (pt_cmpR op_ge (pv 1) pe_int (nomark _)) (pe_op op_mul pe_int (pv 1)) (pe_op op_sub (pe_op op_mul (pe_un un_neg pe_int) (pv 1)) pe_int)))) (pa_cons pe_int (pa_cons pe_int (pa_cons pe_int pa_nil))))))), ?_⟩
    refine ⟨_, rfl, a, rfl, ⟨_, ha⟩, fun L nL => ?_⟩
    refine lc_list (K := K) (a := a) (xs := ns.map V.int) (fun i H2 => Same H H2 ∧ ∃ ms : List Int, ms.length = i ∧ H2 L = some (.lst (ms.map V.int)) ∧ ∀ x ∈ ms, (0 : Int) ≤ x) ⟨same_upd nL, [], rfl, upd_same, fun _ h => nomatch h⟩ (fun i H2 _ p => p.1.seq ha) ?_ ?_
    · rintro i x H2 hx ⟨sm, ms, lms, hL, h0⟩
      have hi : i < ns.length := by have := (List.getElem?_eq_some_iff.mp hx).1; rwa [List.length_map] at this
      rw [getMap hi] at hx
      obtain rfl := Option.some.inj hx
      have fin : ∀ y : Int, 0 ≤ y → ∃ acc, H2 L = some (.lst acc) ∧ acc.length < sizeLine ∧ (Same H (upd H2 L (.lst (acc ++ [.int y]))) ∧ ∃ ms : List Int, ms.length = i + 1 ∧ (upd H2 L (.lst (acc ++ [.int y]))) L = some (.lst (ms.map V.int)) ∧ ∀ x ∈ ms, (0 : Int) ≤ x) := fun y hy =>
        ⟨_, hL, size_lt (by rw [List.length_map]; omega), same_mut sm nL, ms ++ [y], by rw [List.length_append, lms]; rfl, by rw [upd_same, List.map_append]; rfl, fun x hx => by
          rcases List.mem_append.mp hx with hx | hx
          · exact h0 x hx
          · rw [List.mem_singleton.mp hx]; exact hy⟩
      refine ⟨rfl, yes_ ?_⟩
      refine ⟨_, rfl, _, _, rfl, rfl, _, rfl, ifD (fun h => ?_) (fun h => ?_)⟩
      · exact ⟨_, rfl, _, _, rfl, rfl, .inl ⟨by decide, by decide⟩, fin _ (by omega)⟩
      · refine ⟨_, rfl, _, rfl, _, _, rfl, rfl, .inl ⟨by decide, by decide⟩, _, _, rfl, rfl, fin _ ?_⟩
        show (0 : Int) ≤ -2 * ns[i] - 1
        omega
    · rintro H2 ⟨sm, ms, lms, hL, h0⟩
      refine ⟨by show 4 ≤ sizeLine; decide, fun p np => ?_⟩
      exact q _ p L ms (sm.trans (same_upd np)) (sm.free np) upd_same ((same_upd np) _ _ hL) h0
def spPool (K : PySem.W.Frag) : Sp := fun vs H Q _ => ∃ (a : Addr) (ns : List Int), vs = [.ref a] ∧ SqL K H a (ns.map V.int) ∧ ns.length ≤ 10000 ∧ ∀ (H' : Hp) (p : Addr), Same H H' → PoolAt H' p → Q (.ref p) H'
theorem ok_pool (D : DefAt K mg "_law_pool" "_law_pool" s_law_pool) (B : Bt mg) : Has P w K mg base CX0 1 "_law_pool" p_law_pool (spPool K) := by
  obtain ⟨f, fd, F, m, kp, b⟩ := ok_pool0 (P := P) (w := w) (base := base) D B
  refine ⟨f, fd, ghost_call F (fun vs H Q E h => ?_) (fun vs H Q E hp ok h => ?_), m, kp, b⟩
  · obtain ⟨a, ns, rfl, _⟩ := h
    rfl
  · obtain ⟨a, ns, rfl, ha, hl, q⟩ := h
    refine ⟨H, fun v H2 => ∃ (p c : Addr) (ms : List Int), v = .ref p ∧ Same H H2 ∧ H p = none ∧ H2 p = some (.lst (poolL c 0 0 17)) ∧ H2 c = some (.lst (ms.map V.int)) ∧ ∀ x ∈ ms, (0 : Int) ≤ x, fun _ _ _ => False,
      ⟨fun _ e => e, fun _ _ e => e, fun _ _ _ e => e, fun _ _ e => e⟩, ok, ⟨a, ns, rfl, ha, hl, fun H' p c ms a1 a2 a3 a4 a5 => ⟨p, c, ms, rfl, a1, a2, a3, a4, a5⟩⟩, ?_⟩
    rintro v H2 hp2 ok2 ⟨p, c, ms, rfl, sm, np, h1, h2, h3⟩
    refine ⟨_, Gst.upd h1 (fun xs => lst_tup) (fun o u z => by cases z) (fun ps z => by cases z), pool_close ok2 h1 (by decide) (by decide) (by decide) (by decide), ?_⟩
    have ncp : c ≠ p := fun z => by
      rw [z, h1] at h2
      injection h2 with h2
      injection h2 with h2
      cases ms with
      | nil => cases h2
      | cons m ms => injection h2 with h2 _; cases h2
    exact q _ p (same_mut sm np) ⟨c, ms, upd_same, by rw [upd_ne ncp]; exact h2, h3⟩
def spBelow : Sp := fun vs H Q _ => ∃ (a : Addr) (m : Int), vs = [.ref a, .int m] ∧ PoolAt H a ∧ 0 < m ∧ ∀ r, 0 ≤ r → r < m → Q (.int r) H
theorem ok_below (D : DefAt K mg "_law_below" "_law_below" s_law_below) (B : Bt mg) (h_law_take : Has P w K mg base CX0 2 "_law_take" p_law_take spTake) : Has P w K mg base CX0 3 "_law_below" p_law_below spBelow := by
  refine has_of D sc_law_below (fun _ _ _ _ _ _ us hl => match us, hl with | [_, _], _ => rfl) (fun vs H Q E h => ?_) (fun f cdv A outer s H vs Q E hr h => ?_)
  · obtain ⟨a, m, rfl, _⟩ := h
    rfl
  · obtain ⟨a, m, rfl, hp, hm, q⟩ := h
    refine ⟨_, (pss_cons (ps_set (i := 2) sc_law_below.nd rfl (.inl rfl) pe_int)
  (pss_cons (ps_for PassesOwn.never rfl (pi_range1 rfl B.range (pa_cons pe_int pa_nil)) (pg_name (i := 3) sc_law_below.nd rfl (.inl rfl)) (pss_one (ps_set (i := 2) sc_law_below.nd rfl (.inl rfl) (pe_op op_add (pe_op op_mul (pv 2) (pe_op op_pow pe_int pe_int)) (pe_h h_law_take hr pass0 (pa_cons (pv 0) (pa_cons (pe_op op_pow pe_int pe_int) pa_nil)))))))
  (pss_one (ps_ret (pe_op op_mod (pe_callTy call_int1 rfl B.int (by decide +kernel) (pa_cons (pv 2) pa_nil)) (pv 1)))))), ?_⟩
    refine ⟨5, rfl, by decide, by decide, ?_⟩
    refine for_range (lo := 0) (n := (5 : Int).toNat) (fun i σ H' => ∃ (x : Int) (y : Option V), σ = [some (.ref a), some (.int m), some (.int x), y] ∧ H' = H) ?_ ?_ ?_
    · exact ⟨0, none, rfl, rfl⟩
    · rintro i σ H' hi ⟨x, y, rfl, rfl⟩
      refine ⟨_, rfl, _, _, rfl, rfl, ⟨by decide, by decide, by decide⟩, _, _, rfl, rfl, .inr ⟨by decide, by decide⟩, _, rfl, _, _, rfl, rfl, ⟨by decide, by decide, by decide⟩, a, _, rfl, hp, by decide, by decide, fun r r0 r1 => ?_⟩
      exact ⟨_, _, rfl, rfl, _, _, rfl, rfl⟩
    · rintro σ H' ⟨x, y, rfl, rfl⟩
      exact ⟨_, rfl, .inl ⟨_, rfl, _, rfl, _, _, rfl, rfl, hm, q _ (Int.emod_nonneg _ (by omega)) (Int.emod_lt_of_pos _ hm)⟩⟩
def spPower : Sp := fun vs H Q _ => ∃ (b : Int) (k : Nat), vs = [.int b, nV k] ∧ -(2 ^ 64) < b ∧ b < 2 ^ 64 ∧ k ≤ 100000 ∧ Q (.int (b ^ k)) H
theorem ok_power (D : DefAt K mg "_law_power" "_law_power" s_law_power) (B : Bt mg) : Has P w K mg base CX0 1 "_law_power" p_law_power spPower := by
  refine has_of D sc_law_power (fun _ _ _ _ _ _ us hl => match us, hl with | [_, _], _ => rfl) (fun vs H Q E h => ?_) (fun f cdv A outer s H vs Q E hr h => ?_)
  · obtain ⟨b, k, rfl, _⟩ := h
    rfl
  · obtain ⟨b, k, rfl, b1, b2, hk, q⟩ := h
    refine ⟨_, (pss_cons (ps_set (i := 2) sc_law_power.nd rfl (.inl rfl) pe_int)
  (pss_cons (ps_for PassesOwn.never rfl (pi_range1 rfl B.range (pa_cons (pv 1) pa_nil)) (pg_name (i := 3) sc_law_power.nd rfl (.inl rfl)) (pss_one (ps_set (i := 2) sc_law_power.nd rfl (.inl rfl) (pe_op op_mul (pv 2) (pv 0)))))
  (pss_one (ps_ret (pv 2))))), ?_⟩
    refine ⟨_, rfl, _, rfl, by omega, by omega, ?_⟩
    refine for_range (lo := 0) (n := k) (fun i σ H' => ∃ (y : Option V), σ = [some (.int b), some (nV k), some (.int (b ^ i)), y] ∧ H' = H) ?_ ?_ ?_
    · exact ⟨none, by rw [Int.pow_zero]; rfl, rfl⟩
    · rintro i σ H' hi ⟨y, rfl, rfl⟩
      refine ⟨_, rfl, _, rfl, _, _, rfl, rfl, .inr ⟨b1, b2⟩, ?_⟩
      exact ⟨_, by rw [Int.pow_succ]; rfl, rfl⟩
    · rintro σ H' ⟨y, rfl, rfl⟩
      exact ⟨_, rfl, q⟩
def GS (v : V) : Prop := ∃ x : Int, v = .int x ∧ 0 < x ∧ x < 2 ^ 1000
def spGreat : Sp := fun vs H Q _ => ∃ (a : Addr) (n : Nat) (fg : Int), vs = [.ref a, nV n, .int fg] ∧ PoolAt H a ∧ n ≤ 10000 ∧ ∀ (H' : Hp) (L : Addr) (ns : List Int), Same H H' → H L = none → H' L = some (.lst (ns.map V.int)) → ns.length = n → (∀ x ∈ ns, x.natAbs < 2 ^ 1300) → Q (.ref L) H'
theorem ok_great (D : DefAt K mg "_law_great_chips" "_law_great_chips" s_law_great_chips) (B : Bt mg) (h_law_take : Has P w K mg base CX0 2 "_law_take" p_law_take spTake) (h_law_pick : Has P w K mg base CX0 3 "_law_pick" p_law_pick (spPick K))
    (h_law_below : Has P w K mg base CX0 3 "_law_below" p_law_below spBelow) (h_law_power : Has P w K mg base CX0 1 "_law_power" p_law_power spPower) : Has P w K mg base CX0 4 "_law_great_chips" p_law_great_chips spGreat := by
  refine has_of D sc_law_great_chips (fun _ _ _ _ _ _ us hl => match us, hl with | [_, _, _], _ => rfl) (fun vs H Q E h => ?_) (fun f cdv A outer s H vs Q E hr h => ?_)
  · obtain ⟨a, n, fg, rfl, _⟩ := h
    rfl
  · obtain ⟨a, n, fg, rfl, hp, hn, q⟩ := h
    refine ⟨_, (pss_cons (ps_set (i := 3) sc_law_great_chips.nd rfl (.inr rfl) (pe_h h_law_pick hr pass0 (pa_cons (pv 0) (pa_cons (pe_lst (pa_cons pe_int (pa_cons pe_int (pa_cons (pe_op op_pow pe_int pe_int) (pa_cons (pe_op op_pow pe_int pe_int) pa_nil))))) pa_nil))))
  (Evl.pss_cut (ps_if (pt_cmpR op_gt (pv 2) pe_int (nomark _)) (pss_one (ps_set (i := 3) sc_law_great_chips.nd rfl (.inr rfl) (pe_h h_law_pick hr pass0 (pa_cons (pv 0) (pa_cons (pe_lst (pa_cons (pv 3) (pa_cons (pe_h h_law_power hr pass0 (pa_cons pe_int (pa_cons pe_int pa_nil))) (pa_cons (pe_h h_law_power hr pass0 (pa_cons pe_int (pa_cons pe_int pa_nil))) pa_nil)))) pa_nil))))) pss_nil)
  (pss_one (ps_ret (pe_lc (own := [("place", 4)]) (g := gName 4) (tt := tYes) rfl sc_law_great_chips.nd (pi_range1 rfl B.range (pa_cons (pv 1) pa_nil)) (blkOk_by (N := n_law_great_chips) (sc := defScope s_law_great_chips) (by decide +kernel)) (fun _ _ _ _ _ => (pg_name (i := 4) sc_law_great_chips.nd rfl (.inl rfl))) (fun _ _ _ _ _ => pts_nil) (fun _ _ _ _ _ => (pe_ifExp (pt_cmpR op_le (pv 3) (pe_op op_pow pe_int pe_int) (nomark _)) (pe_op op_sub (pe_h h_law_below hr pass0 (pa_cons (pv 0) (pa_cons (pe_op op_add (pe_op op_mul pe_int (pv 3)) pe_int) pa_nil))) (pv 3)) (pe_op op_add (pe_op op_mulW (pe_callTy call_int1 rfl B.int (by decide +kernel) (pa_cons (pe_op op_fdivW (pv 3) (pe_op op_pow pe_int pe_int)) pa_nil)) (pe_op op_sub (pe_h h_law_below hr pass0 (pa_cons (pv 0) (pa_cons (pe_op op_add (pe_op op_mul pe_int (pe_op op_pow pe_int pe_int)) pe_int) pa_nil))) (pe_op op_pow pe_int pe_int))) (pe_h h_law_take hr pass0 (pa_cons (pv 0) (pa_cons (pe_op op_pow pe_int pe_int) pa_nil))))))))))), ?_⟩
    refine ⟨_, rfl, _, _, rfl, rfl, ⟨by decide, by decide, by decide⟩, _, _, rfl, rfl, ⟨by decide, by decide, by decide⟩, by show 4 ≤ sizeLine; decide, fun L1 n1 => ?_⟩
    have s1 : Same H (upd H L1 (.lst [.int 10, .int 100, .int (10 ^ (9 : Int).toNat), .int (10 ^ (30 : Int).toNat)])) := same_upd n1
    refine ⟨a, L1, _, rfl, hp.same s1, SqL.of upd_same, by decide, by decide, fun i v hv => ?_⟩
    have gv : GS v := by
      have hm := List.mem_of_getElem? hv
      simp only [List.mem_cons, List.not_mem_nil, or_false] at hm
      rcases hm with rfl | rfl | rfl | rfl
      · exact ⟨_, rfl, by decide, by decide +kernel⟩
      · exact ⟨_, rfl, by decide, by decide +kernel⟩
      · exact ⟨_, rfl, by decide, by decide +kernel⟩
      · exact ⟨_, rfl, by decide +kernel, by decide +kernel⟩
    generalize upd H L1 (.lst [.int 10, .int 100, .int (10 ^ (9 : Int).toNat), .int (10 ^ (30 : Int).toNat)]) = H1 at s1
    refine ⟨fun σ H' => ∃ v, σ = [some (.ref a), some (nV n), some (.int fg), some v, none] ∧ GS v ∧ Same H H', ?_, ?_⟩
    · refine ⟨_, rfl, _, _, rfl, rfl, _, rfl, ifD (fun _ => ?_) (fun _ => ⟨v, rfl, gv, s1⟩)⟩
      refine ⟨_, rfl, _, rfl, 10, 100, rfl, by decide, by decide, by decide, 10, 289, rfl, by decide, by decide, by decide, by show 3 ≤ sizeLine; decide, fun L2 n2 => ?_⟩
      have s2 : Same H1 (upd H1 L2 (.lst [v, .int (10 ^ 100), .int (10 ^ 289)])) := same_upd n2
      refine ⟨a, L2, _, rfl, hp.same (s1.trans s2), SqL.of upd_same, by show 0 < 3; decide, by show 3 < 1000000000; decide, fun i v' hv' => ?_⟩
      refine ⟨v', rfl, ?_, s1.trans s2⟩
      have hm := List.mem_of_getElem? hv'
      simp only [List.mem_cons, List.not_mem_nil, or_false] at hm
      rcases hm with rfl | rfl | rfl
      · exact gv
      · exact ⟨_, rfl, by decide +kernel, by decide +kernel⟩
      · exact ⟨_, rfl, by decide +kernel, by decide +kernel⟩
    · rintro σ H' ⟨v, rfl, ⟨x, rfl, x0, x1⟩, sm⟩
      refine ⟨_, rfl, n, rfl, by omega, by omega, fun L nL => ?_⟩
      refine lc_range (lo := 0) (n := n) (fun i H2 => Same H' H2 ∧ ∃ ns : List Int, ns.length = i ∧ H2 L = some (.lst (ns.map V.int)) ∧ ∀ x ∈ ns, x.natAbs < 2 ^ 1300) ⟨same_upd nL, [], rfl, upd_same, fun _ h => nomatch h⟩ ?_ ?_
      · rintro i H2 hi ⟨sm2, ns, ls, hL, hb⟩
        have fin : ∀ y : Int, y.natAbs < 2 ^ 1300 → ∃ acc, H2 L = some (.lst acc) ∧ acc.length < sizeLine ∧ (Same H' (upd H2 L (.lst (acc ++ [.int y]))) ∧ ∃ ns : List Int, ns.length = i + 1 ∧ (upd H2 L (.lst (acc ++ [.int y]))) L = some (.lst (ns.map V.int)) ∧ ∀ x ∈ ns, x.natAbs < 2 ^ 1300) := fun y hy =>
          ⟨_, hL, size_lt (by rw [List.length_map]; omega), same_mut sm2 nL, ns ++ [y], by rw [List.length_append, ls]; rfl, by rw [upd_same, List.map_append]; rfl, fun x hx => by
            rcases List.mem_append.mp hx with hx | hx
            · exact hb x hx
            · rw [List.mem_singleton.mp hx]; exact hy⟩
        have hp2 := hp.same (sm.trans sm2)
        have hx10 : x.natAbs < 2 ^ 1000 := by
          have : x.natAbs = x.toNat := by omega
          rw [this]
          have h : (x.toNat : Int) < ((2 ^ 1000 : Nat) : Int) := by rw [Int.toNat_of_nonneg (by omega)]; exact x1
          exact Int.ofNat_lt.mp h
        refine ⟨rfl, yes_ ?_⟩
        refine ⟨_, rfl, _, _, rfl, rfl, ⟨by decide, by decide, by decide⟩, _, _, rfl, rfl, _, rfl, ifD (fun _ => ?_) (fun _ => ?_)⟩
        · refine ⟨_, rfl, _, rfl, _, _, rfl, rfl, .inl ⟨by decide, by decide⟩, _, _, rfl, rfl, a, _, rfl, hp2, by omega, fun r r0 r1 => ?_⟩
          exact ⟨_, rfl, _, _, rfl, rfl, fin _ (Nat.lt_of_le_of_lt (show (r - x).natAbs ≤ x.natAbs by omega) (Nat.lt_of_lt_of_le hx10 (Nat.pow_le_pow_right (by decide) (by decide))))⟩
        · have e28 : (10 : Int) ^ (28 : Int).toNat = 10000000000000000000000000000 := by decide +kernel
          have lt28 : ((10 : Int) ^ (28 : Int).toNat).natAbs < 2 ^ 100 := by rw [e28]; decide
          have p28 : (0 : Int) < (10 : Int) ^ (28 : Int).toNat := by rw [e28]; decide
          refine ⟨_, rfl, _, _, rfl, rfl, ⟨by decide, by decide, by decide⟩, _, _, rfl, rfl, wide_div p28 lt28 (by decide) (by decide), .inl ⟨_, rfl, ?_⟩⟩
          refine ⟨_, rfl, _, _, rfl, rfl, ⟨by decide, by decide, by decide⟩, _, _, rfl, rfl, .inl ⟨by decide, by decide⟩, _, _, rfl, rfl, a, _, rfl, hp2, by omega, fun r r0 r1 => ?_⟩
          have w1 : (x / (10 : Int) ^ (28 : Int).toNat).natAbs < 2 ^ 1000 := wide_le (Int.ediv_nonneg (by omega) (by omega)) (Int.le_trans (Int.ediv_le_self _ (by omega)) (Int.le_refl x)) hx10
          have w2 : (r - (10 : Int) ^ (28 : Int).toNat).natAbs < 2 ^ 200 := by
            have : (2 : Nat) ^ 200 = 1606938044258990275541962092341162602522202993782792835301376 := by decide
            rw [this]
            rw [e28] at r1 ⊢
            omega
          refine ⟨_, _, rfl, rfl, ⟨by decide, by decide, by decide⟩, _, _, rfl, rfl, _, _, rfl, rfl, wide_mul (a := 1000) (b := 200) w1 w2 (by decide) (by decide) (by decide), ?_⟩
          refine ⟨_, rfl, _, _, rfl, rfl, ⟨by decide, by decide, by decide⟩, a, _, rfl, hp2, by decide, by decide, fun r' r0' r1' => ?_⟩
          refine ⟨_, _, rfl, rfl, fin _ ?_⟩
          have w3 := wide_lt w1 w2
          have w4 : r'.natAbs < 2 ^ 1200 := Nat.lt_of_lt_of_le (show r'.natAbs < 2 ^ 20 by
            have e6 : (10 : Int) ^ (6 : Int).toNat = 1000000 := by decide
            rw [e6] at r1'
            have : (2 : Nat) ^ 20 = 1048576 := by decide
            omega) (Nat.pow_le_pow_right (by decide) (by decide))
          have e1200 : (2 : Nat) ^ 1300 = 2 ^ 100 * 2 ^ 1200 := by rw [← Nat.pow_add]
          have h2 : 2 ^ 1200 + 2 ^ 1200 ≤ (2 : Nat) ^ 1300 := by
            rw [e1200, ← Nat.two_mul]
            exact Nat.mul_le_mul_right _ (by decide)
          have w3 : (x / (10 : Int) ^ (28 : Int).toNat * (r - (10 : Int) ^ (28 : Int).toNat)).natAbs < 2 ^ 1200 := w3
          have w5 : (x / (10 : Int) ^ (28 : Int).toNat * (r - (10 : Int) ^ (28 : Int).toNat) + r').natAbs ≤ (x / (10 : Int) ^ (28 : Int).toNat * (r - (10 : Int) ^ (28 : Int).toNat)).natAbs + r'.natAbs := Int.natAbs_add_le _ _
          exact Nat.lt_of_le_of_lt w5 (Nat.lt_of_lt_of_le (Nat.add_lt_add w3 w4) h2)
      · rintro H2 ⟨sm2, ns, ls, hL, hb⟩
        exact q _ L ns (sm.trans sm2) (sm.free nL) hL ls hb
end
end G3

set_option Elab.async false
set_option linter.all false
set_option maxRecDepth 100000
set_option maxHeartbeats 4000000
namespace G3
open PySem PySem.Spec PyProof.Rows L2
/-- a name is kept, be it there or not -/
theorem Gr.keep2 {m : Memo} {H : Hp} {C g kd : Addr} {R R' : Addr → Prop} {n : Nat} {es : List Pr} {kvs : List (L2.Key × V)} {k : L2.Key} {v : V} (h : Gr m H C g kd R n es) (hk : H kd = some (.dK kvs)) (hm : k ∈ m.keys)
    (hr : ∀ x, R x → R' x) (h7' : ∀ x, R' x → H x ≠ none ∧ x ≠ kd) (hv : m.M H R' n es k v) :
    kvs.length < sizeLine ∧ Gr m (upd H kd (.dK (putK kvs k v))) C g kd R' n es := by
  cases hn : valV kvs k with
  | none => exact h.keep hk hn hm hr h7' hv
  | some v0 =>
    obtain ⟨h1, h2, h3, h4, h5, h6, h7, kvs', k1, k2, k3⟩ := h
    rw [hk] at k1
    cases k1
    have len : kvs.length ≤ 1000 := by
      have := few_keys (kvs.map (·.1)) m.keys k2 fun x hx => by
        obtain ⟨y, hy, rfl⟩ := List.mem_map.mp hx
        exact (k3 y.1 y.2 hy).1
      rw [List.length_map] at this
      exact Nat.le_trans this m.few
    have hany : (kvs.any fun kv => decide (kv.1 = k)) = true := List.any_eq_true.mpr ⟨_, val_mem hn, decide_eq_true rfl⟩
    have ep : putK kvs k v = kvs.map (fun kv => if kv.1 = k then (kv.1, v) else kv) := if_pos hany
    rw [ep]
    have b' : ∀ x o, R' x → H x = some o → (upd H kd (.dK (kvs.map (fun kv => if kv.1 = k then (kv.1, v) else kv)))) x = some o := fun x o r e => by rw [upd_ne (h7' x r).2]; exact e
    have b : ∀ x o, R x → H x = some o → (upd H kd (.dK (kvs.map (fun kv => if kv.1 = k then (kv.1, v) else kv)))) x = some o := fun x o r e => b' x o (hr x r) e
    refine ⟨size_lt (by omega), h1.stay b hr, h2, h3, h4, h5, h6, fun x r => ⟨?_, (h7' x r).2⟩, _, upd_same, ?_, ?_⟩
    · rw [upd_ne (h7' x r).2]; exact (h7' x r).1
    · rw [List.map_map]
      have : ((fun x : L2.Key × V => x.1) ∘ fun kv => if kv.1 = k then (kv.1, v) else kv) = fun x => x.1 := by
        funext x
        show (if x.1 = k then (x.1, v) else x).1 = x.1
        split <;> rfl
      rw [this]; exact k2
    · intro k' v' hm'
      obtain ⟨y, hy, e⟩ := List.mem_map.mp hm'
      by_cases c : y.1 = k
      · rw [if_pos c] at e
        cases e
        rw [c]
        exact ⟨hm, m.stay b' (fun _ r => r) hv⟩
      · rw [if_neg c] at e
        subst e
        exact ⟨(k3 _ _ hy).1, m.stay b hr (k3 _ _ hy).2⟩
def ciKey : L2.Key := Sum.inr ("chip inverse" : Str)
/-- what undoes the table, kept -/
def InvAt (H : Hp) (R : Addr → Prop) (v : V) (n : Nat) (es : List Pr) : Prop := ∃ (t LB : Addr) (as : List Addr) (D : Int) (U : Nat → Nat → Int), v = .ref t ∧ R t ∧ R LB ∧ H t = some (.tup [.int D, .ref LB]) ∧ H LB = some (.lst (as.map V.ref)) ∧ as.length = n - 1 ∧ InvU n es D U ∧
  ∀ i a, as[i]? = some a → R a ∧ H a = some (.lst ((List.range (n - 1)).map fun c => .int (U i c)))
theorem InvAt.stay {H H' : Hp} {R R' : Addr → Prop} {v : V} {n : Nat} {es : List Pr} (b : ∀ x o, R x → H x = some o → H' x = some o) (hr : ∀ x, R x → R' x) (h : InvAt H R v n es) : InvAt H' R' v n es := by
  obtain ⟨t, LB, as, D, U, e, r1, r2, h1, h2, h3, h4, h5⟩ := h
  exact ⟨t, LB, as, D, U, e, hr _ r1, hr _ r2, b _ _ r1 h1, b _ _ r2 h2, h3, h4, fun i a z => ⟨hr _ (h5 i a z).1, b _ _ (h5 i a z).1 (h5 i a z).2⟩⟩
structure MemoI (m : Memo) : Prop where
  key : ciKey ∈ m.keys
  iff : ∀ H R n es v, m.M H R n es ciKey v ↔ InvAt H R v n es
def cbKey : L2.Key := Sum.inr ("chip beside" : Str)
def memo2 : Memo where
  keys := [cbKey, ciKey]
  M := fun H R n es k v => (k = cbKey → BesAt H R v n es) ∧ (k = ciKey → InvAt H R v n es)
  few := by show 2 ≤ 1000; decide
  stay := fun b hr h => ⟨fun e => (h.1 e).stay b hr, fun e => (h.2 e).stay b hr⟩
theorem cb_ci : cbKey ≠ ciKey := by unfold cbKey ciKey; decide +kernel
theorem memo2_b : MemoB memo2 := ⟨List.mem_cons_self (a := cbKey) (l := [ciKey]), fun H R n es v => ⟨fun h => (h : (cbKey = cbKey → BesAt H R v n es) ∧ _).1 rfl, fun h => (⟨fun _ => h, fun z => (cb_ci z).elim⟩ : (cbKey = cbKey → BesAt H R v n es) ∧ (cbKey = ciKey → InvAt H R v n es))⟩⟩
theorem memo2_i : MemoI memo2 := ⟨List.mem_cons_of_mem _ (List.mem_cons_self (a := ciKey) (l := [])), fun H R n es v => ⟨fun h => (h : _ ∧ (ciKey = ciKey → InvAt H R v n es)).2 rfl, fun h => (⟨fun z => (cb_ci z.symm).elim, fun _ => h⟩ : (ciKey = cbKey → BesAt H R v n es) ∧ (ciKey = ciKey → InvAt H R v n es))⟩⟩
/-- a row while the table is undone: the part ahead of the bar, and behind it -/
def wEl (m : Nat) (A U : Nat → Nat → Int) (i t : Nat) : Int := if t < m then comb m (U i) A t else U i (t - m)
def wRow (m : Nat) (A U : Nat → Nat → Int) (i : Nat) : List V := (List.range (2 * m)).map fun t => .int (wEl m A U i t)
theorem wRow_len {m : Nat} {A U : Nat → Nat → Int} {i : Nat} : (wRow m A U i).length = 2 * m := by unfold wRow; rw [List.length_map, List.length_range]
theorem wRow_get {m : Nat} {A U : Nat → Nat → Int} {i t : Nat} (h : t < 2 * m) : (wRow m A U i)[t]? = some (.int (wEl m A U i t)) := range_get h
theorem wRow_zero {m : Nat} {A : Nat → Nat → Int} {i : Nat} (hi : i < m) : ((List.range m).map fun c => V.int (A i c)) ++ ((List.range m).map fun c => V.int (if c = i then 1 else 0)) = wRow m A (fun i l => if l = i then 1 else 0) i := by
  apply List.ext_getElem?
  intro t
  by_cases ht : t < 2 * m
  · rw [wRow_get ht]
    unfold wEl
    by_cases c : t < m
    · rw [List.getElem?_append_left (by rw [List.length_map, List.length_range]; exact c), range_get c, if_pos c]
      congr 2
      unfold comb
      rw [sumI_congr (g := fun l => if l = i then A l t else 0) fun l _ => by
        show (if l = i then (1 : Int) else 0) * A l t = _
        by_cases d : l = i
        · rw [if_pos d, if_pos d, Int.one_mul]
        · rw [if_neg d, if_neg d, Int.zero_mul]]
      exact (sumI_delta (f := fun l => A l t) hi).symm
    · rw [List.getElem?_append_right (by rw [List.length_map, List.length_range]; omega), List.length_map, List.length_range, range_get (show t - m < m by omega), if_neg c]
  · rw [List.getElem?_eq_none (by rw [List.length_append, List.length_map, List.length_map, List.length_range]; omega), List.getElem?_eq_none (by rw [wRow_len]; omega)]
section
variable {b m k : Nat} {A : Nat → Nat → Int} {D : Int} {U : Nat → Nat → Int}
theorem wEl_bound (h : Bar b m A k D U) (hb : ∀ r, r < m → ((List.range m).map fun c => (A c r).natAbs).sum ≤ b) {i t : Nat} (hi : i < m) (ht : t < 2 * m) (b1 : 1 ≤ b) : (wEl m A U i t).natAbs ≤ b ^ (k + 1) := by
  unfold wEl
  by_cases c : t < m
  · rw [if_pos c]
    refine Nat.le_trans (sumI_abs (g := fun l => b ^ k * (A l t).natAbs) fun l hl => ?_) ?_
    · rw [Int.natAbs_mul]
      exact Nat.mul_le_mul_right _ (h.bd i l hi hl)
    · have e : ∀ l : List Nat, (l.map fun l => b ^ k * (A l t).natAbs).sum = b ^ k * (l.map fun l => (A l t).natAbs).sum := fun l => by
        induction l with
        | nil => rfl
        | cons a l ih => rw [List.map_cons, List.sum_cons, ih, List.map_cons, List.sum_cons, Nat.mul_add]
      rw [e, Nat.pow_succ]
      exact Nat.mul_le_mul_left _ (hb t c)
  · rw [if_neg c]
    exact Nat.le_trans (h.bd i _ hi (by omega)) (Nat.pow_le_pow_right b1 (Nat.le_succ _))
theorem wEl_step (h : Bar b m A k D U) (hk : k < m) (hp : comb m (U k) A k ≠ 0) {i t : Nat} (hi : i < m) (hik : i ≠ k) (ht : t < 2 * m) :
    (wEl m A U k k * wEl m A U i t - wEl m A U i k * wEl m A U k t) / D = wEl m A (stepU m A k D U) i t := by
  have e1 : wEl m A U k k = comb m (U k) A k := if_pos hk
  have e2 : wEl m A U i k = comb m (U i) A k := if_pos hk
  rw [e1, e2]
  unfold wEl
  by_cases c : t < m
  · rw [if_pos c, if_pos c, if_pos c, ← h.step_comb hk hp hi hik, Int.mul_ediv_cancel_left _ h.p]
  · rw [if_neg c, if_neg c, if_neg c, ← h.step_mul hk hp hi hik (by omega), Int.mul_ediv_cancel_left _ h.p]
end
theorem zint0 (i : Nat) : V.int (0 + (i : Int)) = nV i := by rw [Int.zero_add]
theorem lapB_pow {j : Nat} (h : j ≤ 64) : lapB ^ j < 2 ^ 1409 := by
  unfold lapB
  rw [← Nat.pow_mul]
  exact Nat.lt_of_le_of_lt (Nat.pow_le_pow_right (by decide) (Nat.mul_le_mul_left 22 h)) (Nat.pow_lt_pow_right (by decide) (by decide))
section
variable {P : Program} {w : World} {K : PySem.W.Frag} {mg : Str → Option Value} {base : Heap} {C : Addr}
abbrev n_inverse : List Str := ["graph", "many", "rows", "before", "at", "lead", "number", "by", "row", "place", "part", "more"]
abbrev p_inverse : List Str := ["graph"]
theorem sc_inverse : FnScope n_inverse p_inverse (defScope s_inverse) := ⟨rfl, rfl, rfl, by decide +kernel, rfl, by decide +kernel, by decide +kernel⟩
def spInv (m : Memo) (C : Addr) : Sp := fun vs H Q _ => ∃ (g kd : Addr) (R : Addr → Prop) (n : Nat) (es : List Pr), vs = [.ref g] ∧ Gr m H C g kd R n es ∧ ∀ (H' : Hp) (R' : Addr → Prop) (v : V), Stp m C g kd n es H R H' R' → InvAt H' R' v n es → Q v H'
theorem ok_inverse {m : Memo} (mi : MemoI m) (D : DefAt K mg "inverse" "inverse" s_inverse) (B : Bt mg) (G : GraphC K C) (h_laplace_rows : Has P w K mg base CX0 2 "laplace_rows" p_laplace_rows (spLRows m C)) : Has P w K mg base CX0 3 "inverse" p_inverse (spInv m C) := by
  refine has_of D sc_inverse (fun _ _ _ _ _ _ us hl => match us, hl with | [_], _ => rfl) (fun vs H Q E h => ?_) (fun f cdv A outer s H vs Q E hr h => ?_)
  · obtain ⟨g, kd, R, n, es, rfl, _⟩ := h
    rfl
  · obtain ⟨g, kd, R, n, es, rfl, gr, q⟩ := h
    have hu : (cxOf CX0 P w K mg base n_inverse "inverse" (defScope s_inverse) f cdv A outer s H E).nox.A.units + 1 < cLine := Nat.lt_of_le_of_lt (Nat.add_le_add_left (by decide : 1 ≤ 64) _) hr.units
    refine ⟨_, (Evl.pss_cut (ps_if (pt_cmp (pc_dnotin hu pe_str (fldK (K := K) rfl (pv 0) rfl))) (pss_cons (ps_set (i := 1) sc_inverse.nd rfl (.inr rfl) (pe_op op_sub (fldK (K := K) rfl (pv 0) rfl) pe_int))
  (pss_cons (ps_setLc (i := 2) (own := [("at", 4), ("row", 8)]) (g := _) (tt := tYes) rfl sc_inverse.nd rfl rfl (sw_true rfl rfl rfl (by decide +kernel)) (pi_enum rfl B.enumerate (pa_cons (pe_h h_laplace_rows hr pass0 (pa_cons (pv 0) (pa_cons pe_int pa_nil))) pa_nil)) (blkOk_by (N := n_inverse) (sc := defScope s_inverse) (by decide +kernel)) (fun _ _ _ _ _ => (pgT (K := K) (n := 2) rfl rfl (pgs_cons (pg_name (i := 4) sc_inverse.nd rfl (.inr rfl)) (pgs_cons (pg_name (i := 8) sc_inverse.nd rfl (.inl rfl)) pgs_nil)))) (fun _ _ _ _ _ => pts_nil) (fun _ _ _ _ _ => (pe_op op_cat (pv 8) (pe_lc (own := [("place", 9)]) (g := gName 9) (tt := tYes) rfl sc_inverse.nd (pi_range1 rfl B.range (pa_cons (pv 1) pa_nil)) (blkOk_by (N := n_inverse) (sc := _) (by rfl)) (fun _ _ _ _ _ => (pg_name (i := 9) sc_inverse.nd rfl (.inl rfl))) (fun _ _ _ _ _ => pts_nil) (fun _ _ _ _ _ => (pe_callTy call_int1 rfl B.int (by decide +kernel) (pa_cons (pe_cmpR op_eq (pv 9) (pv 4) (nomark _)) pa_nil)))))))
  (pss_cons (ps_set (i := 3) sc_inverse.nd rfl (.inr rfl) pe_int)
  (pss_cons (ps_for PassesOwn.never rfl (pi_range1 rfl B.range (pa_cons (pv 1) pa_nil)) (pg_name (i := 4) sc_inverse.nd rfl (.inr rfl)) (pss_cons (ps_set (i := 5) sc_inverse.nd rfl (.inr rfl) (pe_ix (ixL (K := K) rfl) (pv 2) (pv 4) (fun _ _ => rfl)))
  (pss_cons (ps_for PassesOwn.never rfl (pi_range1 rfl B.range (pa_cons (pv 1) pa_nil)) (pg_name (i := 6) sc_inverse.nd rfl (.inl rfl)) (pss_one (ps_if (pt_cmpR op_ne (pv 6) (pv 4) (nomark _)) (pss_cons (ps_set (i := 7) sc_inverse.nd rfl (.inr rfl) (pe_ix (ixL (K := K) rfl) (pe_ix (ixL (K := K) rfl) (pv 2) (pv 6) (fun _ _ => rfl)) (pv 4) (fun _ _ => rfl)))
  (pss_one (ps_asg (pe_lc (own := [("part", 10), ("more", 11)]) (g := _) (tt := tYes) rfl sc_inverse.nd (pi_zip rfl B.zip (pa_cons (pe_ix (ixL (K := K) rfl) (pv 2) (pv 6) (fun _ _ => rfl)) (pa_cons (pv 5) pa_nil))) (blkOk_by (N := n_inverse) (sc := defScope s_inverse) (by decide +kernel)) (fun _ _ _ _ _ => (pgT (K := K) (n := 2) rfl rfl (pgs_cons (pg_name (i := 10) sc_inverse.nd rfl (.inl rfl)) (pgs_cons (pg_name (i := 11) sc_inverse.nd rfl (.inl rfl)) pgs_nil)))) (fun _ _ _ _ _ => pts_nil) (fun _ _ _ _ _ => (pe_op op_fdivW (pe_op op_sub (pe_op op_mulW (pe_ix (ixL (K := K) rfl) (pv 5) (pv 4) (fun _ _ => rfl)) (pv 10)) (pe_op op_mulW (pv 7) (pv 11))) (pv 3)))) (pg_sub (pv 2) (pv 6) set_list)))) pss_nil)))
  (pss_one (ps_set (i := 3) sc_inverse.nd rfl (.inr rfl) (pe_ix (ixL (K := K) rfl) (pv 5) (pv 4) (fun _ _ => rfl)))))))
  (pss_one (ps_dput hu (fldK (K := K) rfl (pv 0) rfl) pe_str (pe_tup (pa_cons (pv 3) (pa_cons (pe_lc (own := [("row", 8)]) (g := gName 8) (tt := tYes) rfl sc_inverse.nd (piL (K := K) rfl (pv 2)) (blkOk_by (N := n_inverse) (sc := defScope s_inverse) (by decide +kernel)) (fun _ _ _ _ _ => (pg_name (i := 8) sc_inverse.nd rfl (.inl rfl))) (fun _ _ _ _ _ => pts_nil) (fun _ _ _ _ _ => (pe_slice (slL (K := K) rfl) (pv 8) (po_some (pv 1)) po_none))) pa_nil))) rfl)))))) pss_nil)
  (pss_one (ps_ret (pe_dget hu (fldK (K := K) rfl (pv 0) rfl) pe_str (fun _ _ => rfl))))), ?_⟩
    obtain ⟨⟨dx, eT, vs, hg, heT, hvs, _, _, _⟩, good, hn1, hn64, he4, hlex, hR, kvs, hkd, hnd, hM⟩ := id gr
    refine ⟨fun σ H' => ∃ (R' : Addr → Prop) (kvs : List (L2.Key × V)) (v : V), σ[0]? = some (some (.ref g)) ∧ Stp m C g kd n es H R H' R' ∧ H' kd = some (.dK kvs) ∧ valV kvs ciKey = some v, ?_, ?_⟩
    · refine ⟨_, rfl, g, C, dx, _, _, rfl, hg, G.cls, G.kept, rfl, kd, _, rfl, DGet.k (k := ciKey) hkd, _, rfl, ?_⟩
      cases hv : valV kvs ciKey with
      | some v => exact iteF ⟨R, kvs, v, rfl, StX.refl gr, hkd, hv⟩
      | none =>
        refine iteT ?_
        obtain ⟨M, rfl⟩ : ∃ M, n = M + 1 := ⟨n - 1, by omega⟩
        have eM : V.int (((M + 1 : Nat) : Int) - 1) = nV M := congrArg V.int (by omega)
        refine ⟨_, rfl, g, C, dx, _, _, rfl, hg, G.cls, G.n, rfl, _, _, rfl, rfl, ?_⟩
        show ({ nx := _, rt := _ } : Ends).nx (List.set (start n_inverse [V.ref g]) 1 (some (V.int (((M + 1 : Nat) : Int) - 1)))) H
        rw [eM]
        refine nx_ ?_
        -- rows
        refine ⟨_, rfl, g, kd, R, M + 1, es, 1, rfl, gr, by omega, fun H1 R1 LR ls st1 nLR hLR lls rows => ?_⟩
        refine tNil_ ?_
        refine ⟨LR, _, rfl, SqL.of hLR, fun RL nRL => ?_⟩
        have lM : ls.length = M := by omega
        refine lc_it (walk_enum (K := K) (a := LR) (xs := ls.map V.ref)) (fun i H2 => Same H1 H2 ∧ ∃ as : List Addr, H2 RL = some (.lst (as.map V.ref)) ∧ as.length = i ∧ ∀ j a, as[j]? = some a → a ≠ RL ∧ H1 a = none ∧ H2 a = some (.lst (wRow M (lapA (M + 1) es) (fun i l => if l = i then 1 else 0) j))) ⟨same_upd nRL, [], upd_same, rfl, fun j a z => nomatch z⟩ (fun i H2 _ p => SqL.of (p.1 _ _ hLR)) ?_ ?_
        · rintro i v H2 H3 hi ⟨sm, as, hRL, las, ha⟩ ⟨T, x, y, rfl, nT, rfl, hx, hy⟩
          obtain rfl : V.int (i : Nat) = x := Option.some.inj hx
          have hi : i < ls.length := by rw [List.length_map] at hi; exact hi
          have hy : (ls.map V.ref)[i]? = some y := hy
          rw [rows_get hi] at hy
          obtain rfl := Option.some.inj hy
          have sT : Same H2 (upd H2 T (.tup [.int (i : Nat), .ref ls[i]])) := same_upd nT
          have hT : (upd H2 T (.tup [.int (i : Nat), .ref ls[i]])) T = some (.tup [.int (i : Nat), .ref ls[i]]) := upd_same
          generalize upd H2 T (.tup [.int (i : Nat), .ref ls[i]]) = H3 at sT hT ⊢
          have s3 := sm.trans sT
          refine ⟨T, _, rfl, SqT.of hT, rfl, _, _, rfl, _, _, rfl, rfl, rfl, yes_ ?_⟩
          have hrow := (rows i _ (List.getElem?_eq_getElem hi)).2
          refine ⟨_, rfl, _, rfl, M, rfl, by omega, by omega, fun CL nCL => ?_⟩
          refine lc_range (lo := 0) (n := M) (fun c H4 => Same H3 H4 ∧ H4 CL = some (.lst ((List.range c).map fun c => .int (if c = i then 1 else 0)))) ⟨same_upd nCL, upd_same⟩ ?_ ?_
          · rintro c H4 hc ⟨s4, hCL⟩
            rw [zint0]
            refine ⟨rfl, yes_ ?_⟩
            refine ⟨_, rfl, _, rfl, rfl, .inr ⟨_, rfl, ?_⟩⟩
            refine ⟨_, hCL, size_lt (by rw [List.length_map, List.length_range]; omega), same_mut s4 nCL, ?_⟩
            rw [upd_same, List.range_succ, List.map_append]
            congr 3
            show [V.int (if (decide (nV c = nV i)) = true then 1 else 0)] = [V.int (if c = i then 1 else 0)]
            by_cases e : c = i
            · rw [if_pos e, e, decide_eq_true rfl, if_pos rfl]
            · rw [if_neg e, decide_eq_false (fun z => e (by injection z with z; omega)), if_neg Bool.false_ne_true]
          · rintro H4 ⟨s4, hCL⟩
            have s14 := s3.trans s4
            refine ⟨_, _, _, _, rfl, rfl, s14 _ _ hrow, hCL, size_le (by rw [List.length_map, List.length_map, List.length_range, List.length_range]; omega), fun r nr => ?_⟩
            have er : ((List.range (M + 1 - 1)).map fun c => V.int (lapI (M + 1) es (i + 1) (c + 1))) ++ ((List.range M).map fun c => V.int (if c = i then 1 else 0)) = wRow M (lapA (M + 1) es) (fun i l => if l = i then 1 else 0) i := wRow_zero (A := lapA (M + 1) es) (by omega)
            rw [er]
            have ar : Same H4 (upd H4 r (.lst (wRow M (lapA (M + 1) es) (fun i l => if l = i then 1 else 0) i))) := same_upd nr
            have hr' : (upd H4 r (.lst (wRow M (lapA (M + 1) es) (fun i l => if l = i then 1 else 0) i))) r = some (.lst (wRow M (lapA (M + 1) es) (fun i l => if l = i then 1 else 0) i)) := upd_same
            have s24 := sT.trans s4
            have hRL4 := s24 _ _ hRL
            have nrR : r ≠ RL := fun z => by rw [z, hRL4] at nr; cases nr
            refine ⟨_, ar _ _ hRL4, size_lt (by rw [List.length_map]; omega), same_mut (s14.trans ar) nRL, as ++ [r], by rw [upd_same, List.map_append]; rfl, by rw [List.length_append, las]; rfl, fun j a hj => ?_⟩
            by_cases lj : j < as.length
            · rw [List.getElem?_append_left lj] at hj
              obtain ⟨w1, w2, w3⟩ := ha j a hj
              exact ⟨w1, w2, by rw [upd_ne w1]; exact ar _ _ (s24 _ _ w3)⟩
            · have lk2 := (List.getElem?_eq_some_iff.mp hj).1
              rw [List.length_append] at lk2
              have : j = as.length := by simp at lk2; omega
              subst this
              rw [List.getElem?_append_right (Nat.le_refl _), Nat.sub_self] at hj
              obtain rfl : r = a := Option.some.inj hj
              exact ⟨nrR, s14.free nr, by rw [upd_ne nrR, hr', las]⟩
        rintro H2 ⟨sm, as, hRL, las, ha⟩
        have las : as.length = M := by rw [las, List.length_map, lM]
        have st2 : StX m C g kd (M + 1) es (fun x => x = RL) H R H2 R1 := by
          refine (st1.alloc sm).wide (fun x z => z.elim) fun x z => ?_
          subst z
          exact ⟨fun r => st1.gr.in_ r nRL, fun z => st1.gr.kdn (z ▸ nRL), by rw [hRL]; exact fun z => nomatch z⟩
        have nRL0 : H RL = none := st1.nn _ nRL
        refine nx_ ?_
        refine ⟨_, rfl, M, rfl, by omega, by omega, ?_⟩
        refine for_range (lo := 0) (n := M) (fun k σ H' => ∃ (Dk : Int) (U : Nat → Nat → Int) (as : List Addr) (y4 y5 y6 y7 y8 y9 y10 y11 : Option V), σ = [some (.ref g), some (nV M), some (.ref RL), some (.int Dk), y4, y5, y6, y7, y8, y9, y10, y11] ∧ 0 < Dk ∧ Bar lapB M (lapA (M + 1) es) k Dk U ∧ StX m C g kd (M + 1) es (fun x => x = RL) H R H' R1 ∧ H' RL = some (.lst (as.map V.ref)) ∧ as.length = M ∧
          ∀ j a, as[j]? = some a → a ≠ RL ∧ H a = none ∧ H' a = some (.lst (wRow M (lapA (M + 1) es) U j))) ?_ ?_ ?_
        · exact ⟨1, _, as, _, _, _, _, _, _, _, _, rfl, by decide, bar_zero, st2, hRL, las, fun j a z => ⟨(ha j a z).1, st1.nn _ (ha j a z).2.1, (ha j a z).2.2⟩⟩
        · rintro k σ H3 hk ⟨Dk, U, as, y4, y5, y6, y7, y8, y9, y10, y11, rfl, hD, bar, st, hRL, las, ha⟩
          rw [zint0]
          have hk : k < M := hk
          have lk : k < as.length := by omega
          have hak := (ha k _ (List.getElem?_eq_getElem lk)).2.2
          have nak := (ha k _ (List.getElem?_eq_getElem lk)).1
          have hpos : 0 < comb M (U k) (lapA (M + 1) es) k := bar.pos hk (lapA_pos good) hD
          have hne : comb M (U k) (lapA (M + 1) es) k ≠ 0 := by omega
          have hbr : ∀ r, r < M → ((List.range M).map fun c => (lapA (M + 1) es r c).natAbs).sum ≤ lapB := fun r _ => lapA_row hn64 he4 (by omega) r
          have hbc : ∀ r, r < M → ((List.range M).map fun c => (lapA (M + 1) es c r).natAbs).sum ≤ lapB := fun r hr => by
            have := hbr r hr
            rw [List.map_congr_left (g := fun c => (lapA (M + 1) es c r).natAbs) fun c _ => by rw [lapA_sym]] at this
            exact this
          have bw : ∀ i t, i < M → t < 2 * M → (wEl M (lapA (M + 1) es) U i t).natAbs < 2 ^ 1409 := fun i t hi ht => Nat.lt_of_le_of_lt (wEl_bound bar hbc hi ht (by decide)) (lapB_pow (by omega))
          have hDb : Dk.natAbs < 2 ^ 1409 := by
            have e := bar.id k k hk (Nat.le_refl _) hk
            rw [if_pos rfl] at e
            have := bar.bd k k hk hk
            rw [e] at this
            exact Nat.lt_of_le_of_lt this (lapB_pow (by omega))
          refine ⟨_, rfl, _, rfl, _, _, k, .ref as[k], rfl, rfl, SqL.of hRL, atI_nat (rows_get lk), ?_⟩
          refine nx_ ?_
          refine ⟨_, rfl, M, rfl, by omega, by omega, ?_⟩
          refine for_range (lo := 0) (n := M) (fun j σ H' => ∃ (bs : List Addr) (y6 y7 y8 y9 y10 y11 : Option V), σ = [some (.ref g), some (nV M), some (.ref RL), some (.int Dk), some (nV k), some (.ref as[k]), y6, y7, y8, y9, y10, y11] ∧ StX m C g kd (M + 1) es (fun x => x = RL) H R H' R1 ∧ H' RL = some (.lst (bs.map V.ref)) ∧ bs.length = M ∧ bs[k]? = some as[k] ∧
            ∀ i a, bs[i]? = some a → a ≠ RL ∧ H a = none ∧ H' a = some (.lst (if i < j ∧ i ≠ k then wRow M (lapA (M + 1) es) (stepU M (lapA (M + 1) es) k Dk U) i else wRow M (lapA (M + 1) es) U i))) ?_ ?_ ?_
          · exact ⟨as, _, _, _, _, _, _, rfl, st, hRL, las, List.getElem?_eq_getElem lk, fun i a z => ⟨(ha i a z).1, (ha i a z).2.1, by rw [if_neg (fun z => absurd z.1 (Nat.not_lt_zero _))]; exact (ha i a z).2.2⟩⟩
          · rintro j σ H4 hj ⟨bs, y6, y7, y8, y9, y10, y11, rfl, stj, hRLj, lbs, hbk, hb⟩
            rw [zint0]
            have hj : j < M := hj
            refine ⟨_, rfl, _, rfl, rfl, _, rfl, ifN (fun ne => ?_) (fun e => ?_)⟩
            · have njk : j ≠ k := fun z => ne (congrArg nV z)
              have lj : j < bs.length := by omega
              obtain ⟨nbj, fbj, hbj⟩ := hb j _ (List.getElem?_eq_getElem lj)
              rw [if_neg (fun z => absurd z.1 (Nat.lt_irrefl _))] at hbj
              obtain ⟨_, _, hkk⟩ := hb k _ hbk
              rw [if_neg (fun z => z.2 rfl)] at hkk
              refine ⟨_, rfl, _, rfl, _, _, j, .ref bs[j], rfl, rfl, SqL.of hRLj, atI_nat (rows_get lj), _, rfl, _, _, k, _, rfl, rfl, SqL.of hbj, atI_nat (wRow_get (by omega)), ?_⟩
              refine nx_ ?_
              refine ⟨_, rfl, _, rfl, _, _, j, .ref bs[j], rfl, rfl, SqL.of hRLj, atI_nat (rows_get lj), _, rfl, bs[j], as[k], _, _, rfl, SqL.of hbj, SqL.of hkk, fun NL nNL => ?_⟩
              have nNR : NL ≠ RL := fun z => by rw [z, hRLj] at nNL; cases nNL
              refine lc_it (walk_zip (K := K) (a := bs[j]) (b := as[k]) (xs := wRow M (lapA (M + 1) es) U j) (ys := wRow M (lapA (M + 1) es) U k) (n := 2 * M) (by rw [wRow_len, wRow_len]; omega)) (fun t H5 => Same H4 H5 ∧ H5 NL = some (.lst ((wRow M (lapA (M + 1) es) (stepU M (lapA (M + 1) es) k Dk U) j).take t))) ⟨same_upd nNL, by rw [upd_same]; rfl⟩ (fun t H5 _ p => ⟨SqL.of (p.1 _ _ hbj), SqL.of (p.1 _ _ hkk)⟩) ?_ ?_
              · rintro t v H5 H6 ht ⟨s5, hNL⟩ ⟨T, x, y, rfl, nT, rfl, hx, hy⟩
                have hx : (wRow M (lapA (M + 1) es) U j)[t]? = some x := hx
                have hy : (wRow M (lapA (M + 1) es) U k)[t]? = some y := hy
                rw [wRow_get ht] at hx hy
                obtain rfl := Option.some.inj hx
                obtain rfl := Option.some.inj hy
                have sT : Same H5 (upd H5 T (.tup [.int (wEl M (lapA (M + 1) es) U j t), .int (wEl M (lapA (M + 1) es) U k t)])) := same_upd nT
                have hT : (upd H5 T (.tup [.int (wEl M (lapA (M + 1) es) U j t), .int (wEl M (lapA (M + 1) es) U k t)])) T = some (.tup [.int (wEl M (lapA (M + 1) es) U j t), .int (wEl M (lapA (M + 1) es) U k t)]) := upd_same
                generalize upd H5 T (.tup [.int (wEl M (lapA (M + 1) es) U j t), .int (wEl M (lapA (M + 1) es) U k t)]) = H6 at sT hT ⊢
                have s6 := s5.trans sT
                refine ⟨T, _, rfl, SqT.of hT, rfl, _, _, rfl, _, _, rfl, rfl, rfl, yes_ ?_⟩
                have w1 := bw k k hk (by omega)
                have w2 := bw j t hj ht
                have w3 := bw j k hj (by omega)
                have w4 := bw k t hk ht
                refine ⟨_, rfl, _, rfl, _, _, k, _, rfl, rfl, SqL.of (s6 _ _ hkk), atI_nat (wRow_get (by omega)), _, rfl, _, _, rfl, rfl, wide_mul w1 w2 (by decide) (by decide) (by decide), ?_⟩
                refine ⟨_, rfl, _, rfl, _, _, rfl, rfl, wide_mul w3 w4 (by decide) (by decide) (by decide), _, _, rfl, rfl, ?_⟩
                refine ⟨_, rfl, _, _, rfl, rfl, wide_div hD hDb (by decide) (by decide), ?_⟩
                refine ⟨_, sT _ _ hNL, size_lt (by rw [List.length_take, wRow_len]; omega), same_mut s6 nNL, ?_⟩
                have es' := wEl_step bar hk hne hj njk ht
                rw [upd_same, List.take_add_one, wRow_get ht]
                show some (HO.lst (_ ++ [V.int ((wEl M (lapA (M + 1) es) U k k * wEl M (lapA (M + 1) es) U j t - wEl M (lapA (M + 1) es) U j k * wEl M (lapA (M + 1) es) U k t) / Dk)])) = _
                rw [es']; rfl
              · rintro H5 ⟨s5, hNL⟩
                rw [List.take_of_length_le (by rw [wRow_len]; omega)] at hNL
                have hRL5 := s5 _ _ hRLj
                refine ⟨_, rfl, _, rfl, RL, _, _, j, rfl, rfl, hRL5, Evl.ixN_nat (by rw [List.length_map]; exact lj), ?_⟩
                refine ⟨bs.set j NL, _, _, _, _, _, _, rfl, (stj.alloc s5).set rfl, by rw [upd_same, List.map_set], by rw [List.length_set]; exact lbs, by rw [List.getElem?_set_ne njk]; exact hbk, fun i a hi => ?_⟩
                by_cases c : i = j
                · subst c
                  rw [List.getElem?_set_self lj] at hi
                  obtain rfl := Option.some.inj hi
                  refine ⟨nNR, stj.nn _ nNL, ?_⟩
                  rw [upd_ne nNR, hNL, if_pos ⟨Nat.lt_succ_self _, njk⟩]
                · rw [List.getElem?_set_ne (fun z => c z.symm)] at hi
                  obtain ⟨w1, w2, w3⟩ := hb i a hi
                  refine ⟨w1, w2, ?_⟩
                  rw [upd_ne w1, s5 _ _ w3]
                  by_cases d : i < j ∧ i ≠ k
                  · rw [if_pos d, if_pos ⟨by omega, d.2⟩]
                  · rw [if_neg d, if_neg (fun z => d ⟨by omega, z.2⟩)]
            · have e : j = k := by
                have e : nV j = nV k := e
                injection e with e; omega
              subst e
              refine ⟨bs, _, _, _, _, _, _, rfl, stj, hRLj, lbs, hbk, fun i a hi => ⟨(hb i a hi).1, (hb i a hi).2.1, ?_⟩⟩
              rw [(hb i a hi).2.2]
              by_cases d : i < j ∧ i ≠ j
              · rw [if_pos d, if_pos ⟨by omega, d.2⟩]
              · rw [if_neg d, if_neg (fun z => d ⟨by omega, z.2⟩)]
          · rintro σ H4 ⟨bs, y6, y7, y8, y9, y10, y11, rfl, stj, hRLj, lbs, hbk, hb⟩
            obtain ⟨_, _, hkk⟩ := hb k _ hbk
            rw [if_neg (fun z => z.2 rfl)] at hkk
            refine nx_ ?_
            refine ⟨_, rfl, _, rfl, _, _, k, _, rfl, rfl, SqL.of hkk, atI_nat (wRow_get (by omega)), ?_⟩
            have ekk : wEl M (lapA (M + 1) es) U k k = comb M (U k) (lapA (M + 1) es) k := if_pos hk
            refine ⟨wEl M (lapA (M + 1) es) U k k, stepU M (lapA (M + 1) es) k Dk U, bs, _, _, _, _, _, _, _, _, rfl, by rw [ekk]; exact hpos, by rw [ekk]; exact bar.step hk hne hbr (by decide), stj, hRLj, lbs, fun i a hi => ⟨(hb i a hi).1, (hb i a hi).2.1, ?_⟩⟩
            rw [(hb i a hi).2.2]
            have hiM : i < M := by rw [← lbs]; exact (List.getElem?_eq_some_iff.mp hi).1
            by_cases d : i = k
            · subst d
              rw [if_neg (fun z => z.2 rfl)]
              have : stepU M (lapA (M + 1) es) i Dk U i = U i := by funext l; unfold stepU; rw [if_pos rfl]
              unfold wRow wEl
              rw [this]
            · rw [if_pos ⟨hiM, d⟩]
        · rintro σ H3 ⟨Dk, U, as, y4, y5, y6, y7, y8, y9, y10, y11, rfl, hD, bar, st, hRL, las, ha⟩
          refine nx_ ?_
          have st3 := st.drop (fun x z => z ▸ nRL0)
          refine ⟨_, rfl, _, rfl, RL, rfl, ⟨_, SqL.of hRL⟩, fun LB nLB => ?_⟩
          refine lc_list (K := K) (a := RL) (xs := as.map V.ref) (fun i H4 => Same H3 H4 ∧ ∃ bs : List Addr, H4 LB = some (.lst (bs.map V.ref)) ∧ bs.length = i ∧ ∀ j a, bs[j]? = some a → a ≠ LB ∧ H3 a = none ∧ H4 a = some (.lst ((List.range M).map fun c => .int (U j c)))) ⟨same_upd nLB, [], upd_same, rfl, fun j a z => nomatch z⟩ (fun i H4 _ p => SqL.of (p.1 _ _ hRL)) ?_ ?_
          · rintro i x H4 hx ⟨s4, bs, hLB, lbs, hb⟩
            have hi : i < as.length := by have := (List.getElem?_eq_some_iff.mp hx).1; rwa [List.length_map] at this
            rw [rows_get hi] at hx
            obtain rfl := Option.some.inj hx
            have hrow := (ha i _ (List.getElem?_eq_getElem hi)).2.2
            refine ⟨rfl, yes_ ?_⟩
            refine ⟨_, rfl, _, rfl, _, rfl, as[i], _, rfl, SqL.of (s4 _ _ hrow), fun r nr => ?_⟩
            have er : cutV (wRow M (lapA (M + 1) es) U i) (some (M : Int)) none = (List.range M).map fun c => .int (U i c) := by
              rw [cut_from (by rw [wRow_len]; omega)]
              unfold wRow
              rw [drop_range]
              have : 2 * M - M = M := by omega
              rw [this]
              refine List.map_congr_left fun c _ => ?_
              unfold wEl
              rw [if_neg (by omega), Nat.add_sub_cancel]
            rw [er]
            have ar : Same H4 (upd H4 r (.lst ((List.range M).map fun c => .int (U i c)))) := same_upd nr
            have nrL : r ≠ LB := fun z => by rw [z, hLB] at nr; cases nr
            refine ⟨_, ar _ _ hLB, size_lt (by rw [List.length_map]; omega), same_mut (s4.trans ar) nLB, bs ++ [r], by rw [upd_same, List.map_append]; rfl, by rw [List.length_append, lbs]; rfl, fun j a hj => ?_⟩
            by_cases lj : j < bs.length
            · rw [List.getElem?_append_left lj] at hj
              obtain ⟨w1, w2, w3⟩ := hb j a hj
              exact ⟨w1, w2, by rw [upd_ne w1]; exact ar _ _ w3⟩
            · have lk2 := (List.getElem?_eq_some_iff.mp hj).1
              rw [List.length_append] at lk2
              have : j = bs.length := by simp at lk2; omega
              subst this
              rw [List.getElem?_append_right (Nat.le_refl _), Nat.sub_self] at hj
              obtain rfl : r = a := Option.some.inj hj
              exact ⟨nrL, s4.free nr, by rw [upd_ne nrL, upd_same, lbs]⟩
          · rintro H4 ⟨s4, bs, hLB, lbs, hb⟩
            rw [List.length_map, las] at lbs
            refine ⟨by show 2 ≤ sizeLine; decide, fun T nT => ?_⟩
            have sT : Same H4 (upd H4 T (.tup [.int Dk, .ref LB])) := same_upd nT
            have hT : (upd H4 T (.tup [.int Dk, .ref LB])) T = some (.tup [.int Dk, .ref LB]) := upd_same
            generalize upd H4 T (.tup [.int Dk, .ref LB]) = H5 at sT hT ⊢
            have s35 := s4.trans sT
            have st5 := st3.alloc s35
            have nn := st3.nn
            have hR' : ∀ x, (R1 x ∨ (H x = none ∧ H5 x ≠ none)) → H5 x ≠ none ∧ x ≠ kd := fun x r => by
              rcases r with r | ⟨r1, r2⟩
              · exact ⟨st5.gr.in_ r, st5.gr.nkd r⟩
              · exact ⟨r2, fun z => by rw [z, hkd] at r1; cases r1⟩
            have inv : InvAt H5 (fun x => R1 x ∨ (H x = none ∧ H5 x ≠ none)) (.ref T) (M + 1) es := by
              refine ⟨T, LB, bs, Dk, U, rfl, .inr ⟨nn _ (s4.free nT), by rw [hT]; exact fun z => nomatch z⟩, .inr ⟨nn _ nLB, by rw [sT _ _ hLB]; exact fun z => nomatch z⟩, hT, sT _ _ hLB, lbs, ⟨hD, bar⟩, fun i a hi => ?_⟩
              obtain ⟨w1, w2, w3⟩ := hb i a hi
              exact ⟨.inr ⟨nn _ w2, by rw [sT _ _ w3]; exact fun z => nomatch z⟩, sT _ _ w3⟩
            obtain ⟨kvs5, hkd5⟩ := st5.gr.kdo
            obtain ⟨lt, gr6⟩ := st5.gr.keep2 hkd5 mi.key (fun x r => .inl r) hR' ((mi.iff _ _ _ _ _).mpr inv)
            have hg5 := st5.but _ _ (ne_of hg hkd ins_dK) (fun z => z) hg
            refine ⟨_, rfl, g, C, dx, _, _, rfl, hg5, G.cls, G.kept, rfl, kd, _, rfl, DPut.k (k := ciKey) hkd5 lt, ?_⟩
            refine ⟨_, _, .ref T, rfl, ⟨fun x o h1 _ e => by rw [upd_ne h1]; exact st5.but x o h1 (fun z => z) e, gr6, fun x r => .inl (st5.up x r), fun x r => ?_, fun _ z => z.elim, fun x z => ?_⟩, upd_same, ?_⟩
            · rcases r with r | r
              · exact st5.fr x r
              · exact .inr r.1
            · by_cases c : x = kd
              · rw [c, upd_same] at z; cases z
              · rw [upd_ne c] at z; exact st5.nn x z
            · rw [valV_put, if_pos rfl]
    · rintro σ H1 ⟨R1, kvs1, v, e0, st, hk1, hv1⟩
      have hm := val_mem hv1
      obtain ⟨⟨dx1, eT1, vs1, hg1, _, _, _, _, _⟩, _, _, _, _, _, _, kvs2, hk2, _, hM2⟩ := id st.gr
      rw [hk1] at hk2
      cases hk2
      refine ⟨_, e0, g, C, dx1, _, _, rfl, hg1, G.cls, G.kept, rfl, kd, _, rfl, hv1 ▸ DGet.k (k := ciKey) hk1, ?_⟩
      exact q H1 R1 v st ((mi.iff _ _ _ _ _).mp (hM2 _ _ hm).2)
end
end G3

set_option Elab.async false
set_option linter.all false
set_option maxRecDepth 100000
set_option maxHeartbeats 4000000
namespace G3
open PySem PySem.Spec PyProof.Rows L2
theorem pi_zipK {X : Cx} {K : PySem.W.Frag} (hK : X.K = K) {e e2 : Expr} {ta : TA} {p pos tpos : Pos} {elts : List Expr} {kk : Nat} (hg : Gl X "zip") (hm : X.mg "zip" = none) (ha : PA X [e, e2] ta)
    (hs : starEach [e, e2] X.env = (false, eval e X.env) :: starEach [e2] X.env := by rfl) (hpl : (backTo pos (starEach [e2] X.env)).any (·.1) = false := by rfl) :
    PI X (.Tuple elts kk tpos) (.Call (.Name "zip" p) [e, e2] [] pos) (iZip K ta) := by
  subst hK
  exact pi_zip hg hm ha hs hpl
/-- how great numbers may be -/
def bigE : Nat := 20000
/-- a row of numbers of a function -/
def rowF (n : Nat) (f : Nat → Int) : List V := (List.range n).map fun v => .int (f v)
theorem rowF_get {n i : Nat} {f : Nat → Int} (h : i < n) : (rowF n f)[i]? = some (.int (f i)) := range_get h
theorem rowF_len {n : Nat} {f : Nat → Int} : (rowF n f).length = n := by unfold rowF; rw [List.length_map, List.length_range]
theorem rowF_succ {n : Nat} {f : Nat → Int} : rowF (n + 1) f = rowF n f ++ [.int (f n)] := by unfold rowF; rw [List.range_succ, List.map_append]; rfl
theorem rowF_congr {n : Nat} {f g : Nat → Int} (h : ∀ i, i < n → f i = g i) : rowF n f = rowF n g := List.map_congr_left fun i hi => by rw [h i (List.mem_range.mp hi)]
theorem rowF_set {n a : Nat} {f : Nat → Int} {x : Int} : (rowF n f).set a (.int x) = rowF n fun u => if u = a then x else f u := by
  unfold rowF
  rw [set_range]
  refine List.map_congr_left fun u _ => ?_
  show (if u = a then V.int x else V.int (f u)) = V.int (if u = a then x else f u)
  split <;> rfl
theorem rowF_map {n : Nat} {f : Nat → Int} : rowF n f = ((List.range n).map f).map V.int := by unfold rowF; rw [List.map_map]; rfl
theorem rowF_of {ns : List Int} {n : Nat} (h : ns.length = n) : ns.map V.int = rowF n fun i => ns.getD i 0 := by
  apply List.ext_getElem?
  intro i
  by_cases hi : i < n
  · rw [rowF_get hi, List.getElem?_map, List.getD_eq_getElem?_getD, List.getElem?_eq_getElem (by omega)]; rfl
  · rw [List.getElem?_eq_none (by rw [List.length_map]; omega), List.getElem?_eq_none (by rw [rowF_len]; omega)]
/-- the chips at all other places, at a place what they lack -/
def restF (n : Nat) (cs : Nat → Int) (p : Nat) (v : Nat) : Int := if v = p then - sumI n (fun u => if u = p then 0 else cs u) else cs v
theorem restF_sum {n p : Nat} {cs : Nat → Int} (hp : p < n) : sumI n (restF n cs p) = 0 := by
  rw [sumI_pick hp]
  have e : sumI n (fun l => if l = p then 0 else restF n cs p l) = sumI n (fun u => if u = p then 0 else cs u) := sumI_congr fun u _ => by
    by_cases c : u = p
    · rw [if_pos c, if_pos c]
    · rw [if_neg c, if_neg c]
      unfold restF
      rw [if_neg c]
  rw [e]
  unfold restF
  rw [if_pos rfl]
  omega
/-- what `undone` tells -/
def undF (n : Nat) (U : Nat → Nat → Int) (cs : Nat → Int) (p : Nat) (v : Nat) : Int := undoF n U (restF n cs p) v - undoF n U (restF n cs p) p
theorem undF_at {n : Nat} {U : Nat → Nat → Int} {cs : Nat → Int} {p : Nat} : undF n U cs p p = 0 := Int.sub_self _
theorem undF_lap {n : Nat} {es : List Pr} {D : Int} {U : Nat → Nat → Int} (h : InvU n es D U) {cs : Nat → Int} {p v : Nat} (hp : p < n) (hv : v < n) : lapF n es (undF n U cs p) v = D * restF n cs p v := by
  have e : lapF n es (undF n U cs p) v = lapF n es (undoF n U (restF n cs p)) v := lapF_shift
  rw [e]
  exact undo_all h _ (restF_sum hp) hv
theorem InvU.bound {n : Nat} {es : List Pr} {D : Int} {U : Nat → Nat → Int} (h : InvU n es D U) (hn : n ≤ 64) {i l : Nat} (hi : i < n - 1) (hl : l < n - 1) : (U i l).natAbs < 2 ^ 1409 := Nat.lt_of_le_of_lt (h.2.bd i l hi hl) (lapB_pow (by omega))
theorem sumI_bound {n b : Nat} {f : Nat → Int} (hn : n ≤ 64) (h : ∀ i, i < n → (f i).natAbs < 2 ^ b) : (sumI n f).natAbs < 2 ^ (b + 6) := by
  have h1 := sumI_abs (n := n) (f := f) (g := fun _ => 2 ^ b - 1) fun i hi => by have := h i hi; omega
  have h2 := sum_le (f := fun _ => 2 ^ b - 1) (b := 2 ^ b - 1) (n := n) fun _ _ => Nat.le_refl _
  have h3 : n * (2 ^ b - 1) ≤ 64 * (2 ^ b - 1) := Nat.mul_le_mul_right _ hn
  have h4 : (2 : Nat) ^ (b + 6) = 2 ^ b * 64 := by rw [Nat.pow_add]
  have h5 : 0 < (2 : Nat) ^ b := Nat.pow_pos (by decide)
  omega
section
variable {P : Program} {w : World} {K : PySem.W.Frag} {mg : Str → Option Value} {base : Heap} {C : Addr}
abbrev n_undone : List Str := ["graph", "chips", "place", "under", "rows", "rest", "found", "row", "number", "part", "many"]
abbrev p_undone : List Str := ["graph", "chips", "place"]
theorem sc_undone : FnScope n_undone p_undone (defScope s_undone) := ⟨rfl, rfl, rfl, by decide +kernel, rfl, by decide +kernel, by decide +kernel⟩
def spUnd (m : Memo) (C : Addr) : Sp := fun vs H Q _ => ∃ (g kd c : Addr) (R : Addr → Prop) (n : Nat) (es : List Pr) (cs : Nat → Int) (p : Nat), vs = [.ref g, .ref c, nV p] ∧ Gr m H C g kd R n es ∧ H c = some (.lst (rowF n cs)) ∧ p < n ∧ (∀ v, v < n → (cs v).natAbs < 2 ^ bigE) ∧
  ∀ (H' : Hp) (R' : Addr → Prop) (T L : Addr) (D : Int) (U : Nat → Nat → Int), Stp m C g kd n es H R H' R' → InvU n es D U → H L = none → ¬ R' L → H' T = some (.tup [.int D, .ref L]) → H' L = some (.lst (rowF n (undF n U cs p))) → Q (.ref T) H'
theorem ok_undone {m : Memo} (D : DefAt K mg "undone" "undone" s_undone) (B : Bt mg) (h_inverse : Has P w K mg base CX0 3 "inverse" p_inverse (spInv m C)) : Has P w K mg base CX0 4 "undone" p_undone (spUnd m C) := by
  refine has_of D sc_undone (fun _ _ _ _ _ _ us hl => match us, hl with | [_, _, _], _ => rfl) (fun vs H Q E h => ?_) (fun f cdv A outer s H vs Q E hr h => ?_)
  · obtain ⟨g, kd, c, R, n, es, cs, p, rfl, _⟩ := h
    rfl
  · obtain ⟨g, kd, c, R, n, es, cs, p, rfl, gr, hc, hp, hb, q⟩ := h
    refine ⟨_, (pss_cons (ps_asg (pe_h h_inverse hr pass0 (pa_cons (pv 0) pa_nil)) (pgT (K := K) (n := 2) rfl rfl (pgs_cons (pg_name (i := 3) sc_undone.nd rfl (.inl rfl)) (pgs_cons (pg_name (i := 4) sc_undone.nd rfl (.inl rfl)) pgs_nil))))
  (pss_cons (ps_set (i := 5) sc_undone.nd rfl (.inr rfl) (pe_callTy (listK (K := K) rfl) rfl B.list (by decide +kernel) (pa_cons (pv 1) pa_nil)))
  (pss_cons (ps_asg pe_int (pg_sub (pv 5) (pv 2) set_list))
  (pss_cons (ps_asg (pe_un un_neg (pe_callB (sumK (K := K) rfl rfl) rfl B.sum (by decide +kernel) (pa_cons (pv 5) pa_nil))) (pg_sub (pv 5) (pv 2) set_list))
  (pss_cons (ps_set (i := 6) sc_undone.nd rfl (.inr rfl) (pe_op op_cat (pe_lst (pa_cons pe_int pa_nil)) (pe_lc (own := [("row", 7)]) (g := gName 7) (tt := tYes) rfl sc_undone.nd (piL (K := K) rfl (pv 4)) (blkOk_by (N := n_undone) (sc := defScope s_undone) (by decide +kernel)) (fun _ _ _ _ _ => (pg_name (i := 7) sc_undone.nd rfl (.inl rfl))) (fun _ _ _ _ _ => pts_nil) (fun _ _ _ _ _ => (pe_callB (sumK (K := K) rfl rfl) rfl B.sum (by decide +kernel) (pa_cons (pe_lc (own := [("part", 9), ("many", 10)]) (g := _) (tt := tYes) rfl sc_undone.nd (pi_zipK (K := K) rfl rfl B.zip (pa_cons (pv 7) (pa_cons (pe_slice (slL (K := K) rfl) (pv 5) (po_some pe_int) po_none) pa_nil))) (blkOk_by (N := n_undone) (sc := _) (by rfl)) (fun _ _ _ _ _ => (pgT (K := K) (n := 2) rfl rfl (pgs_cons (pg_name (i := 9) sc_undone.nd rfl (.inl rfl)) (pgs_cons (pg_name (i := 10) sc_undone.nd rfl (.inl rfl)) pgs_nil)))) (fun _ _ _ _ _ => pts_nil) (fun _ _ _ _ _ => (pe_op op_mulW (pv 9) (pv 10)))) pa_nil))))))
  (pss_one (ps_ret (pe_tup (pa_cons (pv 3) (pa_cons (pe_lc (own := [("number", 8)]) (g := gName 8) (tt := tYes) rfl sc_undone.nd (piL (K := K) rfl (pv 6)) (blkOk_by (N := n_undone) (sc := defScope s_undone) (by decide +kernel)) (fun _ _ _ _ _ => (pg_name (i := 8) sc_undone.nd rfl (.inl rfl))) (fun _ _ _ _ _ => pts_nil) (fun _ _ _ _ _ => (pe_op op_sub (pv 8) (pe_ix (ixL (K := K) rfl) (pv 6) (pv 2) (fun _ _ => rfl))))) pa_nil)))))))))), ?_⟩
    have hn64 : n ≤ 64 := gr.2.2.2.1
    obtain ⟨kvs, hkd⟩ := gr.kdo
    refine ⟨_, rfl, g, kd, R, n, es, rfl, gr, fun H1 R1 v st1 inv => ?_⟩
    obtain ⟨t, LB, as, Dn, U, rfl, rt, rLB, ht, hLB, las, hI, ha⟩ := inv
    refine ⟨t, _, rfl, SqT.of ht, rfl, _, _, rfl, _, _, rfl, rfl, ?_⟩
    have hc1 := st1.lst gr (fun z => z) hc
    refine ⟨_, rfl, c, _, rfl, .inl (SqL.of hc1), fun A1 nA1 => ?_⟩
    have st2 := (StX.new (a := A1) (o := .lst (rowF n cs)) st1 nA1).less (Y := fun x => x = A1) (fun x z => .inr z) (fun x z => z.elim (fun z => z.elim) .inl)
    have hA1 : (upd H1 A1 (.lst (rowF n cs))) A1 = some (.lst (rowF n cs)) := upd_same
    have s12 : Same H1 (upd H1 A1 (.lst (rowF n cs))) := same_upd nA1
    have nA0 : H A1 = none := st1.nn _ nA1
    generalize upd H1 A1 (.lst (rowF n cs)) = H2 at st2 hA1 s12 ⊢
    refine nx_ ?_
    -- rest
    refine ⟨_, rfl, _, rfl, A1, _, _, p, rfl, rfl, hA1, Evl.ixN_nat (by rw [rowF_len]; exact hp), ?_⟩
    rw [rowF_set]
    have st3 : StX m C g kd n es (fun x => x = A1) H R (upd H2 A1 (.lst (rowF n fun u => if u = p then 0 else cs u))) R1 := st2.set rfl
    have hA3 : (upd H2 A1 (.lst (rowF n fun u => if u = p then 0 else cs u))) A1 = some (.lst (rowF n fun u => if u = p then 0 else cs u)) := upd_same
    have b3 : But (· = A1) H2 (upd H2 A1 (.lst (rowF n fun u => if u = p then 0 else cs u))) := But.mut rfl
    generalize upd H2 A1 (.lst (rowF n fun u => if u = p then 0 else cs u)) = H3 at st3 hA3 b3 ⊢
    refine nx_ ?_
    have hA3' := hA3
    rw [rowF_map] at hA3'
    refine ⟨_, rfl, A1, _, rfl, SqL.of hA3', _, rfl, ?_⟩
    refine ⟨_, rfl, _, rfl, A1, _, _, p, rfl, rfl, hA3, Evl.ixN_nat (by rw [rowF_len]; exact hp), ?_⟩
    rw [rowF_set]
    have erest : (rowF n fun u => if u = p then -((List.range n).map fun u => if u = p then 0 else cs u).sum else if u = p then 0 else cs u) = rowF n (restF n cs p) := rowF_congr fun u _ => by
      unfold restF
      by_cases e : u = p
      · rw [if_pos e, if_pos e]; rfl
      · rw [if_neg e, if_neg e, if_neg e]
    rw [erest]
    have st4 : StX m C g kd n es (fun x => x = A1) H R (upd H3 A1 (.lst (rowF n (restF n cs p)))) R1 := st3.set rfl
    have hA4 : (upd H3 A1 (.lst (rowF n (restF n cs p)))) A1 = some (.lst (rowF n (restF n cs p))) := upd_same
    have b4 : But (· = A1) H2 (upd H3 A1 (.lst (rowF n (restF n cs p)))) := b3.trans (But.mut rfl)
    generalize upd H3 A1 (.lst (rowF n (restF n cs p))) = H4 at st4 hA4 b4 ⊢
    have nA : ∀ x o, H1 x = some o → ¬ x = A1 := fun x o e z => by rw [z, nA1] at e; cases e
    have up : ∀ x o, H1 x = some o → H4 x = some o := fun x o e => b4 _ _ (nA _ _ e) (s12 _ _ e)
    have hLB4 := up _ _ hLB
    have hrb : ∀ v, v < n → (restF n cs p v).natAbs < 2 ^ (bigE + 6) := fun v hv => by
      unfold restF
      split
      · rw [Int.natAbs_neg]
        refine sumI_bound (b := bigE) hn64 fun u hu => ?_
        split
        · exact Nat.pow_pos (by decide)
        · exact hb u hu
      · exact Nat.lt_of_lt_of_le (hb v hv) (Nat.pow_le_pow_right (by decide) (by decide))
    generalize hrest : restF n cs p = rest at hA4 hrb ⊢
    refine nx_ ?_
    -- found
    refine ⟨by show 1 ≤ sizeLine; decide, fun Z0 nZ0 => ?_⟩
    have s5 : Same H4 (upd H4 Z0 (.lst [.int 0])) := same_upd nZ0
    have hZ0 : (upd H4 Z0 (.lst [.int 0])) Z0 = some (.lst [.int 0]) := upd_same
    generalize upd H4 Z0 (.lst [.int 0]) = H5 at s5 hZ0 ⊢
    refine ⟨_, rfl, LB, rfl, ⟨_, SqL.of (s5 _ _ hLB4)⟩, fun F nF => ?_⟩
    refine lc_list (K := K) (a := LB) (xs := as.map V.ref) (fun i H6 => Same H5 H6 ∧ H6 F = some (.lst (rowF i fun v => undoF n U rest (v + 1)))) ⟨same_upd nF, upd_same⟩ (fun i H6 _ p => SqL.of ((s5.trans p.1) _ _ hLB4)) ?_ ?_
    · rintro i x H6 hx ⟨s6, hF⟩
      have hi : i < as.length := by have := (List.getElem?_eq_some_iff.mp hx).1; rwa [List.length_map] at this
      rw [rows_get hi] at hx
      obtain rfl := Option.some.inj hx
      have s46 := s5.trans s6
      have hrow : H6 as[i] = some (.lst (rowF (n - 1) (U i))) := s46 _ _ (up _ _ (ha i _ (List.getElem?_eq_getElem hi)).2)
      refine ⟨rfl, yes_ ?_⟩
      refine ⟨_, rfl, _, rfl, _, rfl, A1, _, rfl, SqL.of (s46 _ _ hA4), fun r nr => ?_⟩
      have er : cutV (rowF n rest) (some 1) none = rowF (n - 1) fun l => rest (l + 1) := by
        have := cut_from (xs := rowF n rest) (f := 1) (by rw [rowF_len]; omega)
        rw [show (some (1 : Int)) = some (((1 : Nat)) : Int) from rfl, this]
        exact drop_range
      rw [er]
      have ar : Same H6 (upd H6 r (.lst (rowF (n - 1) fun l => rest (l + 1)))) := same_upd nr
      have hr' : (upd H6 r (.lst (rowF (n - 1) fun l => rest (l + 1)))) r = some (.lst (rowF (n - 1) fun l => rest (l + 1))) := upd_same
      generalize upd H6 r (.lst (rowF (n - 1) fun l => rest (l + 1))) = H7 at ar hr' ⊢
      refine tNil_ ?_
      refine ⟨as[i], r, _, _, rfl, SqL.of (ar _ _ hrow), SqL.of hr', fun S nS => ?_⟩
      refine lc_it (walk_zip (K := K) (a := as[i]) (b := r) (xs := rowF (n - 1) (U i)) (ys := rowF (n - 1) fun l => rest (l + 1)) (n := n - 1) (by rw [rowF_len, rowF_len, Nat.min_self])) (fun t H8 => Same H7 H8 ∧ H8 S = some (.lst (rowF t fun l => U i l * rest (l + 1)))) ⟨same_upd nS, upd_same⟩ (fun t H8 _ p => ⟨SqL.of ((ar.trans p.1) _ _ hrow), SqL.of (p.1 _ _ hr')⟩) ?_ ?_
      · rintro t v H8 H9 ht ⟨s8, hS⟩ ⟨T, x, y, rfl, nT, rfl, hx, hy⟩
        have hx : (rowF (n - 1) (U i))[t]? = some x := hx
        have hy : (rowF (n - 1) fun l => rest (l + 1))[t]? = some y := hy
        rw [rowF_get ht] at hx hy
        obtain rfl := Option.some.inj hx
        obtain rfl := Option.some.inj hy
        have sT : Same H8 (upd H8 T (.tup [.int (U i t), .int (rest (t + 1))])) := same_upd nT
        refine ⟨T, _, rfl, SqT.of upd_same, rfl, _, _, rfl, _, _, rfl, rfl, rfl, yes_ ?_⟩
        refine ⟨_, rfl, _, rfl, _, _, rfl, rfl, wide_mul (hI.bound hn64 (by omega) ht) (hrb (t + 1) (by omega)) (by decide) (by decide) (by decide), ?_⟩
        refine ⟨_, sT _ _ hS, size_lt (by rw [rowF_len]; omega), same_mut (s8.trans sT) nS, ?_⟩
        rw [upd_same, rowF_succ]
      · rintro H8 ⟨s8, hS⟩
        rw [rowF_map] at hS
        refine ⟨S, _, rfl, SqL.of hS, ?_⟩
        have s68 := ar.trans s8
        refine ⟨_, s68 _ _ hF, size_lt (by rw [rowF_len]; omega), same_mut (s6.trans s68) nF, ?_⟩
        rw [upd_same, rowF_succ]
        have eu : undoF n U rest (i + 1) = ((List.range (n - 1)).map fun l => U i l * rest (l + 1)).sum := by
          unfold undoF
          rw [if_neg (by omega)]; rfl
        rw [eu]
    rintro H6 ⟨s6, hF⟩
    rw [List.length_map, las] at hF
    refine ⟨Z0, F, _, _, rfl, rfl, s6 _ _ hZ0, hF, size_le (by rw [rowF_len]; show 1 + (n - 1) ≤ _; omega), fun Fd nFd => ?_⟩
    have ec : [V.int 0] ++ (rowF (n - 1) fun v => undoF n U rest (v + 1)) = rowF n (undoF n U rest) := by
      obtain ⟨k, rfl⟩ : ∃ k, n = k + 1 := ⟨n - 1, by omega⟩
      unfold rowF
      rw [List.range_succ_eq_map, List.map_cons, List.map_map]
      show V.int 0 :: _ = V.int (undoF (k + 1) U rest 0) :: _
      have : undoF (k + 1) U rest 0 = 0 := if_pos rfl
      rw [this]; rfl
    rw [ec]
    have s7 : Same H6 (upd H6 Fd (.lst (rowF n (undoF n U rest)))) := same_upd nFd
    have hFd : (upd H6 Fd (.lst (rowF n (undoF n U rest)))) Fd = some (.lst (rowF n (undoF n U rest))) := upd_same
    generalize upd H6 Fd (.lst (rowF n (undoF n U rest))) = H7 at s7 hFd ⊢
    have s47 := s5.trans (s6.trans s7)
    have st7 := st4.alloc s47
    refine nx_ ?_
    refine ⟨_, rfl, _, rfl, Fd, rfl, ⟨_, SqL.of hFd⟩, fun L nL => ?_⟩
    refine lc_list (K := K) (a := Fd) (xs := rowF n (undoF n U rest)) (fun i H8 => Same H7 H8 ∧ H8 L = some (.lst (rowF i fun v => undoF n U rest v - undoF n U rest p))) ⟨same_upd nL, upd_same⟩ (fun i H8 _ p => SqL.of (p.1 _ _ hFd)) ?_ ?_
    · rintro i x H8 hx ⟨s8, hL⟩
      have hi : i < n := by have := (List.getElem?_eq_some_iff.mp hx).1; rwa [rowF_len] at this
      rw [rowF_get hi] at hx
      obtain rfl := Option.some.inj hx
      refine ⟨rfl, yes_ ?_⟩
      refine ⟨_, rfl, _, rfl, _, rfl, _, _, p, _, rfl, rfl, SqL.of (s8 _ _ hFd), atI_nat (rowF_get hp), _, _, rfl, rfl, ?_⟩
      refine ⟨_, hL, size_lt (by rw [rowF_len]; omega), same_mut s8 nL, ?_⟩
      rw [upd_same, rowF_succ]
    rintro H8 ⟨s8, hL⟩
    rw [rowF_len] at hL
    refine ⟨by show 2 ≤ sizeLine; decide, fun T nT => ?_⟩
    have st9 := (st7.alloc (s8.trans (same_upd (o := .tup [.int Dn, .ref L]) nT))).drop (fun x z => z ▸ nA0)
    refine q _ R1 T L Dn U st9 hI (st4.nn _ (s47.free nL)) (fun r => st7.gr.in_ r nL) upd_same ?_
    rw [(same_upd nT) _ _ hL]
    unfold undF
    rw [hrest]
end
end G3

set_option Elab.async false
set_option linter.all false
set_option maxRecDepth 100000
set_option maxHeartbeats 1000000
namespace G3
open PySem PySem.Spec PyProof.Rows L2
/-! ## plain: fire and reduced sums -/
/-- how many edges lead from a place into a set -/
def heatS (n : Nat) (es : List Pr) (S : Nat → Bool) (v : Nat) : Int := sumI n fun u => if S u = true then mI es v u else 0
/-- a set with a place that nothing outside burns from -/
def Clo (n : Nat) (es : List Pr) (cs : Nat → Int) (q : Nat) (S : Nat → Bool) : Prop := S q = true ∧ ∀ v, v < n → S v = false → heatS n es S v ≤ cs v
def Burns (n : Nat) (es : List Pr) (cs : Nat → Int) (q : Nat) : Prop := ∀ S, Clo n es cs q S → ∀ v, v < n → S v = true
def Low (n : Nat) (es : List Pr) (cs : Nat → Int) (q : Nat) : Prop := (∀ v, v < n → v ≠ q → 0 ≤ cs v) ∧ Burns n es cs q
theorem heat_nonneg {n : Nat} {es : List Pr} {S : Nat → Bool} {v : Nat} : 0 ≤ heatS n es S v := sumI_nonneg fun u _ => by
  split
  · exact mI_nonneg
  · exact Int.le_refl 0
theorem heat_mono {n : Nat} {es : List Pr} {S T : Nat → Bool} {v : Nat} (h : ∀ u, u < n → S u = true → T u = true) : heatS n es S v ≤ heatS n es T v := sumI_le fun u hu => by
  by_cases c : S u = true
  · rw [if_pos c, if_pos (h u hu c)]; exact Int.le_refl _
  · rw [if_neg c]
    split
    · exact mI_nonneg
    · exact Int.le_refl 0
theorem exists_max {f : Nat → Int} : ∀ {n : Nat}, 0 < n → ∃ v, v < n ∧ ∀ u, u < n → f u ≤ f v
  | 0, h => by omega
  | 1, _ => ⟨0, by omega, fun u hu => by rw [show u = 0 by omega]; exact Int.le_refl _⟩
  | n + 2, _ => by
    obtain ⟨v, hv, h⟩ := exists_max (f := f) (n := n + 1) (by omega)
    by_cases c : f v ≤ f (n + 1)
    · refine ⟨n + 1, by omega, fun u hu => ?_⟩
      by_cases d : u = n + 1
      · rw [d]; exact Int.le_refl _
      · have := h u (by omega)
        omega
    · refine ⟨v, by omega, fun u hu => ?_⟩
      by_cases d : u = n + 1
      · rw [d]; omega
      · exact h u (by omega)
/-- a script that leaves no debts but at the place is nowhere greater than there -/
theorem red_max {n : Nat} {es : List Pr} {cs f : Nat → Int} {q : Nat} (b : Burns n es cs q) (hq : q < n) (h : ∀ v, v < n → v ≠ q → 0 ≤ cs v - lapF n es f v) : ∀ v, v < n → f v ≤ f q := by
  obtain ⟨m, hm, hmax⟩ := exists_max (f := f) (n := n) (by omega)
  rcases Int.lt_or_le (f q) (f m) with c | c
  · exfalso
    have hS := b (fun v => decide (f v < f m)) ⟨decide_eq_true c, fun v hv hv2 => ?_⟩ m hm
    · exact absurd (of_decide_eq_true hS) (by omega)
    · have e : f v = f m := by
        have := of_decide_eq_false hv2
        have := hmax v hv
        omega
      have hvq : v ≠ q := fun z => by rw [z] at e; omega
      have h1 := h v hv hvq
      have h2 : heatS n es (fun v => decide (f v < f m)) v ≤ lapF n es f v := sumI_le fun u hu => by
        have hu2 := hmax u hu
        by_cases d : f u < f m
        · rw [if_pos (decide_eq_true d)]
          have h3 : 1 ≤ f v - f u := by omega
          have h4 := Int.mul_le_mul_of_nonneg_left h3 (mI_nonneg (es := es) (v := v) (u := u))
          rw [Int.mul_one] at h4
          exact h4
        · rw [if_neg (show ¬ decide (f u < f m) = true by rw [decide_eq_false d]; exact Bool.false_ne_true)]
          exact Int.mul_nonneg mI_nonneg (by omega)
      omega
  · exact fun v hv => Int.le_trans (hmax v hv) c
theorem lapF_neg {n : Nat} {es : List Pr} {f : Nat → Int} {v : Nat} : lapF n es (fun u => - f u) v = - lapF n es f v := by
  unfold lapF
  rw [← sumI_neg]
  exact sumI_congr fun u _ => by
    show mI es v u * (- f v - - f u) = _
    rw [← Int.mul_neg]; congr 1; omega
theorem lapF_add {n : Nat} {es : List Pr} {f g : Nat → Int} {v : Nat} : lapF n es (fun u => f u + g u) v = lapF n es f v + lapF n es g v := by
  unfold lapF
  rw [← sumI_add]
  exact sumI_congr fun u _ => by
    show mI es v u * (f v + g v - (f u + g u)) = _
    rw [← Int.mul_add]; congr 1; omega
theorem lapF_sub {n : Nat} {es : List Pr} {f g : Nat → Int} {v : Nat} : lapF n es (fun u => f u - g u) v = lapF n es f v - lapF n es g v := by
  unfold lapF
  rw [← sumI_sub]
  exact sumI_congr fun u _ => by
    show mI es v u * (f v - g v - (f u - g u)) = _
    rw [← Int.mul_sub]; congr 1; omega
theorem lapF_mul {n : Nat} {es : List Pr} {f : Nat → Int} {c : Int} {v : Nat} : lapF n es (fun u => c * f u) v = c * lapF n es f v := by
  unfold lapF
  rw [← sumI_mul]
  exact sumI_congr fun u _ => by rw [← Int.mul_sub, Int.mul_left_comm]
theorem lapF_congr {n : Nat} {es : List Pr} {f g : Nat → Int} (h : ∀ u, u < n → f u = g u) {v : Nat} (hv : v < n) : lapF n es f v = lapF n es g v := by
  unfold lapF
  exact sumI_congr fun u hu => by rw [h u hu, h v hv]
/-- there is only one reduced sum, and only one script to it -/
theorem low_uniq {n : Nat} {es : List Pr} {c1 c2 f : Nat → Int} {q : Nat} (h1 : Low n es c1 q) (h2 : Low n es c2 q) (hq : q < n) (e : ∀ v, v < n → c2 v = c1 v - lapF n es f v) : ∀ v, v < n → f v = f q := fun v hv => by
  have a := red_max (f := f) h1.2 hq (fun v hv hvq => by rw [← e v hv]; exact h2.1 v hv hvq) v hv
  have b := red_max (f := fun u => - f u) h2.2 hq (fun v hv hvq => by
    rw [lapF_neg, e v hv]
    have := h1.1 v hv hvq
    omega) v hv
  have b : - f v ≤ - f q := b
  omega
/-- weights by which each firing makes a sum lighter -/
theorem weights {n : Nat} {es : List Pr} {D : Int} {U : Nat → Nat → Int} (h : InvU n es D U) {q : Nat} (hq : q < n) : ∃ wt : Nat → Int, wt q = 0 ∧ (∀ v, v < n → 0 ≤ wt v) ∧ ∀ v, v < n → v ≠ q → 1 ≤ lapF n es wt v := by
  let r : Nat → Int := fun v => if v = q then - sumI n (fun u => if u = q then 0 else 1) else 1
  have hr : sumI n r = 0 := by
    rw [sumI_pick hq]
    have e : sumI n (fun l => if l = q then 0 else r l) = sumI n (fun u => if u = q then 0 else 1) := sumI_congr fun u _ => by
      by_cases c : u = q
      · rw [if_pos c, if_pos c]
      · rw [if_neg c, if_neg c]; exact if_neg c
    rw [e]
    have : r q = - sumI n (fun u => if u = q then 0 else 1) := if_pos rfl
    omega
  have hw : ∀ v, v < n → v ≠ q → 1 ≤ lapF n es (fun v => undoF n U r v - undoF n U r q) v := fun v hv hvq => by
    rw [lapF_shift, undo_all h r hr hv]
    have : r v = 1 := if_neg hvq
    rw [this, Int.mul_one]
    exact h.1
  refine ⟨fun v => undoF n U r v - undoF n U r q, Int.sub_self _, ?_, hw⟩
  obtain ⟨m, hm, hmin⟩ := exists_max (f := fun v => - (undoF n U r v - undoF n U r q)) (n := n) (by omega)
  have hmq : m = q := by
    rcases Nat.decEq m q with c | c
    · have h1 := hw m hm c
      have h2 : lapF n es (fun v => undoF n U r v - undoF n U r q) m ≤ 0 := by
        have : lapF n es (fun v => undoF n U r v - undoF n U r q) m ≤ sumI n fun _ => 0 := sumI_le fun u hu => by
          have h3 := hmin u hu
          have h4 : (undoF n U r m - undoF n U r q) - (undoF n U r u - undoF n U r q) ≤ 0 := by
            have h3 : - (undoF n U r u - undoF n U r q) ≤ - (undoF n U r m - undoF n U r q) := h3
            omega
          exact Int.mul_nonpos_of_nonneg_of_nonpos mI_nonneg h4
        rw [sumI_z] at this
        exact this
      omega
    · exact c
  intro v hv
  have h3 := hmin v hv
  rw [hmq] at h3
  have h3 : - (undoF n U r v - undoF n U r q) ≤ - (undoF n U r q - undoF n U r q) := h3
  show 0 ≤ undoF n U r v - undoF n U r q
  omega
/-- firing a set makes the sum lighter -/
theorem lighter {n : Nat} {es : List Pr} {wt cs s : Nat → Int} {q : Nat} (hw : ∀ v, v < n → v ≠ q → 1 ≤ lapF n es wt v) (hs : ∀ v, v < n → 0 ≤ s v) (hsq : s q = 0) (hq : q < n) (hne : ∃ v, v < n ∧ 1 ≤ s v) :
    sumI n (fun v => (cs v - lapF n es s v) * wt v) + 1 ≤ sumI n fun v => cs v * wt v := by
  have e1 : sumI n (fun v => (cs v - lapF n es s v) * wt v) = sumI n (fun v => cs v * wt v) - sumI n (fun v => lapF n es s v * wt v) := by
    rw [← sumI_sub]
    exact sumI_congr fun v _ => Int.sub_mul ..
  rw [e1, lap_total]
  have h1 : 1 ≤ sumI n fun v => lapF n es wt v * s v := by
    obtain ⟨v, hv, h⟩ := hne
    have hvq : v ≠ q := fun z => by rw [z, hsq] at h; omega
    rw [sumI_pick hv]
    have h2 : 0 ≤ sumI n fun l => if l = v then 0 else lapF n es wt l * s l := sumI_nonneg fun u hu => by
      split
      · exact Int.le_refl 0
      · by_cases c : u = q
        · rw [c, hsq, Int.mul_zero]; exact Int.le_refl 0
        · exact Int.mul_nonneg (Int.le_trans (by decide) (hw u hu c)) (hs u hu)
    have h3 : 1 ≤ lapF n es wt v * s v := by
      have a := Int.mul_le_mul_of_nonneg_right (hw v hv hvq) (hs v hv)
      rw [Int.one_mul] at a
      omega
    omega
  omega
theorem exists_inv {n : Nat} {es : List Pr} (good : Good n es) (h1 : 1 ≤ n) (hn : n ≤ 64) (he : es.length ≤ 400) : ∃ D U, InvU n es D U := by
  obtain ⟨M, rfl⟩ : ∃ M, n = M + 1 := ⟨n - 1, by omega⟩
  have step : ∀ k, k ≤ M → ∃ D U, 0 < D ∧ Bar lapB M (lapA (M + 1) es) k D U := fun k => by
    induction k with
    | zero => exact fun _ => ⟨1, _, by decide, bar_zero⟩
    | succ k ih =>
      intro hk
      obtain ⟨D, U, hD, b⟩ := ih (by omega)
      have hp := b.pos (by omega) (lapA_pos good) hD
      exact ⟨_, _, hp, b.step (by omega) (by omega) (fun r _ => lapA_row hn he (by omega) r) (by decide)⟩
  obtain ⟨D, U, hD, b⟩ := step M (Nat.le_refl _)
  exact ⟨D, U, hD, b⟩
/-- debts cleared up: two undone rows rounded -/
theorem cleared {n : Nat} {es : List Pr} {D : Int} {cs F G s : Nat → Int} {q : Nat} (hD : 0 < D) (hF : ∀ v, v < n → v ≠ q → lapF n es F v = D * cs v) (hG : ∀ v, v < n → v ≠ q → lapF n es G v = D * (2 * sumI n fun u => mI es v u))
    (hs : ∀ v, v < n → s v = F v / D + (- G v) / D) : ∀ v, v < n → v ≠ q → 0 ≤ cs v - lapF n es s v := fun v hv hvq => by
  have e0 : ∀ u, u < n → 0 ≤ F u - G u - D * s u ∧ F u - G u - D * s u ≤ 2 * D - 2 := fun u hu => by
    rw [hs u hu, Int.mul_add]
    have a1 := Int.emod_nonneg (F u) (by omega : D ≠ 0)
    have a2 := Int.emod_lt_of_pos (F u) hD
    have a3 := Int.emod_nonneg (- G u) (by omega : D ≠ 0)
    have a4 := Int.emod_lt_of_pos (- G u) hD
    have b1 := Int.emod_add_mul_ediv (F u) D
    have b2 := Int.emod_add_mul_ediv (- G u) D
    omega
  have e1 : D * lapF n es s v = lapF n es F v - lapF n es G v - lapF n es (fun u => F u - G u - D * s u) v := by
    have : lapF n es (fun u => F u - G u - D * s u) v = lapF n es F v - lapF n es G v - D * lapF n es s v := by
      rw [lapF_sub (f := fun u => F u - G u) (g := fun u => D * s u), lapF_sub, lapF_mul]
    omega
  have e2 : - lapF n es (fun u => F u - G u - D * s u) v ≤ (2 * D - 2) * sumI n fun u => mI es v u := by
    rw [← lapF_neg, ← sumI_mul]
    refine sumI_le fun u hu => ?_
    have h1 := e0 v hv
    have h2 := e0 u hu
    rw [Int.mul_comm (2 * D - 2)]
    refine Int.mul_le_mul_of_nonneg_left ?_ mI_nonneg
    show - (F v - G v - D * s v) - - (F u - G u - D * s u) ≤ 2 * D - 2
    omega
  have hm : 0 ≤ sumI n fun u => mI es v u := sumI_nonneg fun u _ => mI_nonneg
  have e3 : 0 ≤ D * (cs v - lapF n es s v) := by
    rw [Int.mul_sub, e1, hF v hv hvq, hG v hv hvq]
    have : (2 * D - 2) * (sumI n fun u => mI es v u) = D * (2 * sumI n fun u => mI es v u) - 2 * sumI n fun u => mI es v u := by
      rw [Int.sub_mul, Int.mul_comm 2 D, Int.mul_assoc]
    omega
  rcases Int.lt_or_le (cs v - lapF n es s v) 0 with z | z
  · have := Int.mul_neg_of_pos_of_neg hD z
    omega
  · exact z
/-- the first place outside that something burns from -/
theorem hot {n : Nat} {es : List Pr} (good : Good n es) {S : Nat → Bool} {q v : Nat} (hq : q < n) (hS : S q = true) (hv : v < n) (hv2 : S v = false) : ∃ u, u < n ∧ S u = false ∧ 1 ≤ heatS n es S u := by
  have : ¬ ∀ e ∈ es, S e.1 = S e.2 := fun h => by
    have h1 := good.2 S h q hq
    have h2 := good.2 S h v hv
    rw [hS] at h1
    rw [hv2, ← h1] at h2
    cases h2
  have : ∃ e ∈ es, S e.1 ≠ S e.2 := by
    rcases Classical.em (∃ e ∈ es, S e.1 ≠ S e.2) with z | z
    · exact z
    · exact absurd (fun e he => Classical.byContradiction fun y => z ⟨e, he, y⟩) this
  obtain ⟨e, he, ne⟩ := this
  obtain ⟨b1, b2⟩ := good.1 e he
  have hm : 0 < mult es e.1 e.2 := by
    have : 0 < es.count e := List.count_pos_iff.mpr he
    have e0 : (e.1, e.2) = e := rfl
    unfold mult
    rw [e0]; omega
  have key : ∀ a b, a < n → S a = true → 0 < mult es b a → 1 ≤ heatS n es S b := fun a b ha hSa hm => by
    unfold heatS
    rw [sumI_pick ha]
    have h1 : 0 ≤ sumI n (fun l => if l = a then 0 else if S l = true then mI es b l else 0) := sumI_nonneg fun u _ => by
      split
      · exact Int.le_refl 0
      · split
        · exact mI_nonneg
        · exact Int.le_refl 0
    rw [if_pos hSa]
    have h2 : 1 ≤ mI es b a := by show (1 : Int) ≤ ((mult es b a : Nat) : Int); omega
    omega
  cases h1 : S e.1 with
  | true =>
    have h2 : S e.2 = false := by
      cases z : S e.2 with
      | false => rfl
      | true => exact absurd (h1.trans z.symm) ne
    exact ⟨e.2, b2, h2, key e.1 e.2 (by omega) h1 (by rw [mult_sym]; exact hm)⟩
  | false =>
    have h2 : S e.2 = true := by
      cases z : S e.2 with
      | true => rfl
      | false => exact absurd (h1.trans z.symm) ne
    exact ⟨e.1, by omega, h1, key e.2 e.1 b2 h2 hm⟩
/-- firing once what lies outside a set -/
theorem lapF_out {n : Nat} {es : List Pr} {S : Nat → Bool} {t : Int} {v : Nat} : lapF n es (fun u => if S u = true then 0 else t) v = if S v = true then - (t * sumI n fun u => if S u = true then 0 else mI es v u) else t * heatS n es S v := by
  by_cases c : S v = true
  · rw [if_pos c]
    unfold lapF
    rw [← sumI_mul, ← sumI_neg]
    refine sumI_congr fun u _ => ?_
    show mI es v u * ((if S v = true then 0 else t) - (if S u = true then 0 else t)) = _
    by_cases d : S u = true
    · rw [if_pos c, if_pos d, if_pos d, Int.mul_zero, Int.sub_self, Int.mul_zero]; rfl
    · rw [if_pos c, if_neg d, if_neg d, Int.zero_sub, Int.mul_neg, Int.mul_comm]
  · rw [if_neg c]
    unfold lapF heatS
    rw [← sumI_mul]
    refine sumI_congr fun u _ => ?_
    show mI es v u * ((if S v = true then 0 else t) - (if S u = true then 0 else t)) = _
    by_cases d : S u = true
    · rw [if_neg c, if_pos d, if_pos d, Int.sub_zero, Int.mul_comm]
    · rw [if_neg c, if_neg d, if_neg d, Int.sub_self, Int.mul_zero, Int.mul_zero]
end G3

set_option Elab.async false
set_option linter.all false
set_option maxRecDepth 100000
set_option maxHeartbeats 4000000
namespace G3
open PySem PySem.Spec PyProof.Rows L2
def lineH (l : List Pr) (v : Nat) : Int := (l.map fun e => (e.2 : Int) * (if e.1 = v then 1 else 0)).sum
theorem lineH_end {n : Nat} {es : List Pr} {x : Nat} {l : List Pr} (h : IsLine (mult es x) l) (hm : ∀ u, 0 < mult es x u → u < n) {u : Nat} (hu : u < n) : lineH l u = mI es u x := by
  unfold lineH
  rw [line_sum h hm (fun y => if y = u then 1 else 0)]
  show sumI n (fun w => mI es x w * (if w = u then 1 else 0)) = _
  rw [sumI_congr (g := fun w => if w = u then mI es x w else 0) fun w _ => by
    by_cases d : w = u
    · rw [if_pos d, if_pos d, Int.mul_one]
    · rw [if_neg d, if_neg d, Int.mul_zero], sumI_delta (f := fun w => mI es x w) hu]
  exact congrArg Nat.cast mult_sym
theorem lineH_snoc {l : List Pr} {u c v : Nat} : lineH (l ++ [(u, c)]) v = lineH l v + if u = v then (c : Int) else 0 := by
  unfold lineH
  rw [List.map_append, List.sum_append]
  show _ + ((c : Int) * (if u = v then 1 else 0) + 0) = _
  split
  · rw [Int.mul_one, Int.add_zero]
  · rw [Int.mul_zero, Int.add_zero]
/-- fire on its way: S burnt, Pc those of which the heat is told, W those that wait, g heat told besides -/
structure Fire (n : Nat) (es : List Pr) (cs : Nat → Int) (p : Nat) (S Pc : Nat → Bool) (W : List Nat) (h g : Nat → Int) (cur : Nat → Prop) : Prop where
  sp : S p = true
  wS : ∀ w, w ∈ W → w < n ∧ S w = true ∧ Pc w = false ∧ ¬ cur w
  nd : W.Nodup
  pS : ∀ v, Pc v = true → S v = true ∧ v < n
  sW : ∀ v, v < n → S v = true → Pc v = true ∨ v ∈ W ∨ cur v
  hh : ∀ v, v < n → S v = false → h v = heatS n es Pc v + g v ∧ h v ≤ cs v
  fo : ∀ T, Clo n es cs p T → ∀ v, v < n → S v = true → T v = true
section
variable {n : Nat} {es : List Pr} {cs : Nat → Int} {p : Nat} {S Pc : Nat → Bool} {W : List Nat} {h g g' : Nat → Int} {cur : Nat → Prop}
theorem Fire.gcongr (f : Fire n es cs p S Pc W h g cur) (e : ∀ v, v < n → g v = g' v) : Fire n es cs p S Pc W h g' cur :=
  { f with hh := fun v hv hS => ⟨by rw [← e v hv]; exact (f.hh v hv hS).1, (f.hh v hv hS).2⟩ }
/-- a burnt one is passed -/
theorem Fire.skip (f : Fire n es cs p S Pc W h g cur) {u : Nat} {c : Int} (hS : S u = true) : Fire n es cs p S Pc W h (fun v => g v + if u = v then c else 0) cur :=
  ⟨f.sp, f.wS, f.nd, f.pS, f.sW, fun v hv hSv => by
      have ne : u ≠ v := fun z => by rw [z, hSv] at hS; cases hS
      show _ = _ + (g v + if u = v then c else 0) ∧ _
      rw [if_neg ne, Int.add_zero]
      exact f.hh v hv hSv, f.fo⟩
/-- it grows warm -/
theorem Fire.warm (f : Fire n es cs p S Pc W h g cur) {u : Nat} {c : Int} (hu : u < n) (hS : S u = false) (hc : h u + c ≤ cs u) : Fire n es cs p S Pc W (fun v => if v = u then h u + c else h v) (fun v => g v + if u = v then c else 0) cur :=
  ⟨f.sp, f.wS, f.nd, f.pS, f.sW, fun v hv hSv => by
      show (if v = u then h u + c else h v) = _ + (g v + if u = v then c else 0) ∧ (if v = u then h u + c else h v) ≤ _
      by_cases d : v = u
      · subst d
        rw [if_pos rfl, if_pos rfl]
        exact ⟨by rw [(f.hh v hu hS).1]; omega, hc⟩
      · rw [if_neg d, if_neg (fun z => d z.symm), Int.add_zero]
        exact f.hh v hv hSv, f.fo⟩
/-- it burns -/
theorem Fire.burn (f : Fire n es cs p S Pc W h g cur) {u : Nat} {c x : Int} (hu : u < n) (hS : S u = false) (hcu : ¬ cur u) (hc : cs u < h u + c) (hT : ∀ T, Clo n es cs p T → (∀ v, v < n → S v = true → T v = true) → heatS n es Pc u + (g u + c) ≤ heatS n es T u) :
    Fire n es cs p (fun v => if v = u then true else S v) Pc (W ++ [u]) (fun v => if v = u then x else h v) (fun v => g v + if u = v then c else 0) cur where
  sp := by
    show (if p = u then true else S p) = true
    split
    · rfl
    · exact f.sp
  wS := fun w hw => by
    rcases List.mem_append.mp hw with hw | hw
    · obtain ⟨a, b, d⟩ := f.wS w hw
      exact ⟨a, by show (if w = u then true else S w) = true; split; rfl; exact b, d⟩
    · rw [List.mem_singleton.mp hw]
      refine ⟨hu, if_pos rfl, ?_, hcu⟩
      cases e : Pc u with
      | false => rfl
      | true => rw [(f.pS u e).1] at hS; cases hS
  nd := List.nodup_append.mpr ⟨f.nd, List.nodup_cons.mpr ⟨List.not_mem_nil, List.nodup_nil⟩, fun a ha b hb e => by
    rw [List.mem_singleton.mp hb] at e
    have := (f.wS a ha).2.1
    rw [e, hS] at this
    cases this⟩
  pS := fun v hv => ⟨by show (if v = u then true else S v) = true; split; rfl; exact (f.pS v hv).1, (f.pS v hv).2⟩
  sW := fun v hv hSv => by
    by_cases d : v = u
    · rw [d]; exact .inr (.inl (List.mem_append.mpr (.inr (List.mem_singleton.mpr rfl))))
    · have hSv : (if v = u then true else S v) = true := hSv
      rw [if_neg d] at hSv
      exact (f.sW v hv hSv).imp id fun z => z.imp (fun z => List.mem_append.mpr (.inl z)) id
  hh := fun v hv hSv => by
    have hSv : (if v = u then true else S v) = false := hSv
    by_cases d : v = u
    · rw [if_pos d] at hSv; cases hSv
    · rw [if_neg d] at hSv
      rw [if_neg d, if_neg (fun z => d z.symm), Int.add_zero]
      exact f.hh v hv hSv
  fo := fun T hT' v hv hSv => by
    have hSv : (if v = u then true else S v) = true := hSv
    by_cases d : v = u
    · subst d
      cases e : T v with
      | true => rfl
      | false =>
        have h1 := hT'.2 v hv e
        have h2 := hT T hT' fun w hw hS => f.fo T hT' w hw hS
        have h3 := (f.hh v hv hS).1
        omega
    · rw [if_neg d] at hSv
      exact f.fo T hT' v hv hSv
theorem Fire.congr' (f : Fire n es cs p S Pc W h g cur) {h' : Nat → Int} (e : ∀ v, v < n → S v = false → h v = h' v) : Fire n es cs p S Pc W h' g cur :=
  { f with hh := fun v hv hS => by rw [← e v hv hS]; exact f.hh v hv hS }
theorem heat_one {x : Nat} (hx : x < n) (hP : Pc x = false) (u : Nat) : heatS n es (fun v => if v = x then true else Pc v) u = heatS n es Pc u + mI es u x := by
  unfold heatS
  rw [sumI_pick hx, sumI_pick (f := fun w => if Pc w = true then mI es u w else 0) hx]
  have e : sumI n (fun l => if l = x then 0 else if (if l = x then true else Pc l) = true then mI es u l else 0) = sumI n (fun l => if l = x then 0 else if Pc l = true then mI es u l else 0) := sumI_congr fun l _ => by
    by_cases d : l = x
    · rw [if_pos d, if_pos d]
    · rw [if_neg d, if_neg d, if_neg d]
  rw [e, if_pos (show (if x = x then true else Pc x) = true from if_pos rfl), hP, if_neg Bool.false_ne_true, Int.add_zero]
/-- one waits no longer -/
theorem Fire.pop (f : Fire n es cs p S Pc (W ++ [x]) h (fun _ => 0) (fun _ => False)) : x < n ∧ S x = true ∧ Pc x = false ∧ Fire n es cs p S Pc W h (fun _ => 0) (· = x) := by
  obtain ⟨a, b, c, _⟩ := f.wS x (List.mem_append.mpr (.inr (List.mem_singleton.mpr rfl)))
  have nd := List.nodup_append.mp f.nd
  refine ⟨a, b, c, f.sp, fun w hw => ?_, nd.1, f.pS, fun v hv hS => ?_, f.hh, f.fo⟩
  · obtain ⟨a, b, c, _⟩ := f.wS w (List.mem_append.mpr (.inl hw))
    exact ⟨a, b, c, fun z => nd.2.2 w hw x (List.mem_singleton.mpr rfl) z⟩
  · rcases f.sW v hv hS with z | z | z
    · exact .inl z
    · rcases List.mem_append.mp z with z | z
      · exact .inr (.inl z)
      · exact .inr (.inr (List.mem_singleton.mp z))
    · exact z.elim
theorem Fire.told (f : Fire n es cs p S Pc W h g (· = x)) (hx : x < n) (hS : S x = true) (hP : Pc x = false) (e : ∀ v, v < n → g v = mI es v x) : Fire n es cs p S (fun v => if v = x then true else Pc v) W h (fun _ => 0) (fun _ => False) where
  sp := f.sp
  wS := fun w hw => by
    obtain ⟨a, b, c, d⟩ := f.wS w hw
    exact ⟨a, b, by show (if w = x then true else Pc w) = false; rw [if_neg d]; exact c, id⟩
  nd := f.nd
  pS := fun v hv => by
    have hv : (if v = x then true else Pc v) = true := hv
    by_cases d : v = x
    · rw [d]; exact ⟨hS, hx⟩
    · rw [if_neg d] at hv; exact f.pS v hv
  sW := fun v hv hSv => by
    rcases f.sW v hv hSv with z | z | z
    · refine .inl ?_
      show (if v = x then true else Pc v) = true
      split
      · rfl
      · exact z
    · exact .inr (.inl z)
    · exact .inl (if_pos z)
  hh := fun v hv hSv => by
    rw [heat_one hx hP, Int.add_zero, ← e v hv]
    exact f.hh v hv hSv
  fo := f.fo
theorem Fire.done (f : Fire n es cs p S Pc [] h (fun _ => 0) (fun _ => False)) : Clo n es cs p S ∧ (∀ v, v < n → S v = false → h v = heatS n es S v) ∧ ∀ T, Clo n es cs p T → ∀ v, v < n → S v = true → T v = true := by
  have e : ∀ u, heatS n es Pc u = heatS n es S u := fun u => sumI_congr fun w hw => by
    cases hS : S w with
    | true =>
      rcases f.sW w hw hS with z | z | z
      · rw [z]
      · cases z
      · exact z.elim
    | false =>
      have : Pc w = false := by
        cases z : Pc w with
        | false => rfl
        | true => rw [(f.pS w z).1] at hS; cases hS
      rw [this]
  have hh : ∀ v, v < n → S v = false → h v = heatS n es S v := fun v hv hS => by
    rw [← e, (f.hh v hv hS).1, Int.add_zero]
  exact ⟨⟨f.sp, fun v hv hS => by rw [← hh v hv hS]; exact (f.hh v hv hS).2⟩, hh, f.fo⟩
end
def muP (n : Nat) (Pc : Nat → Bool) : Nat := ((List.range n).filter fun v => !Pc v).length
theorem mu_told {n x : Nat} {Pc : Nat → Bool} (hx : x < n) (hP : Pc x = false) : muP n (fun v => if v = x then true else Pc v) < muP n Pc := by
  unfold muP
  have e : (List.range n).filter (fun v => !(if v = x then true else Pc v)) = ((List.range n).filter fun v => !Pc v).filter fun v => decide (v ≠ x) := by
    rw [List.filter_filter]
    refine List.filter_congr fun v _ => ?_
    by_cases c : v = x
    · rw [if_pos c, decide_eq_false (fun z => z c)]; rfl
    · rw [if_neg c, decide_eq_true c]; rfl
  rw [e]
  exact List.length_filter_lt_length_iff_exists.mpr ⟨x, List.mem_filter.mpr ⟨List.mem_range.mpr hx, by rw [hP]; rfl⟩, by simp⟩
theorem mu_le {n : Nat} {Pc : Nat → Bool} : muP n Pc ≤ n := by
  unfold muP
  have := List.length_filter_le (fun v => !Pc v) (List.range n)
  rwa [List.length_range] at this
theorem nd_len : ∀ {n : Nat} {W : List Nat}, W.Nodup → (∀ w ∈ W, w < n) → W.length ≤ n := fun {n W} hn hw => by
  have key : ∀ (l k : List Nat), l.Nodup → (∀ x ∈ l, x ∈ k) → l.length ≤ k.length := fun l => by
    induction l with
    | nil => intro k _ _; exact Nat.zero_le _
    | cons a t ih =>
      intro k hn hs
      obtain ⟨h1, h2⟩ := List.nodup_cons.mp hn
      have ha := hs a (List.mem_cons_self ..)
      have h3 := ih (k.filter fun x => decide (x ≠ a)) h2 fun x hx => List.mem_filter.mpr ⟨hs x (List.mem_cons_of_mem _ hx), decide_eq_true (fun z => h1 (by rw [← z]; exact hx))⟩
      have h4 : (k.filter fun x => decide (x ≠ a)).length < k.length := List.length_filter_lt_length_iff_exists.mpr ⟨a, ha, by simp⟩
      rw [List.length_cons]; omega
  have := key W (List.range n) hn fun w h => List.mem_range.mpr (hw w h)
  rwa [List.length_range] at this
def fire0 (cs : Nat → Int) (p v : Nat) : Bool := decide (v = p) || decide (cs v < 0)
theorem fire_start {n : Nat} {es : List Pr} {cs : Nat → Int} {p : Nat} (hp : p < n) : Fire n es cs p (fire0 cs p) (fun _ => false) ((List.range n).filter (fire0 cs p)) (fun _ => 0) (fun _ => 0) (fun _ => False) where
  sp := by unfold fire0; rw [decide_eq_true rfl]; rfl
  wS := fun w hw => by
    obtain ⟨a, b⟩ := List.mem_filter.mp hw
    exact ⟨List.mem_range.mp a, b, rfl, id⟩
  nd := List.nodup_range.filter _
  pS := fun v hv => by cases hv
  sW := fun v hv hS => .inr (.inl (List.mem_filter.mpr ⟨List.mem_range.mpr hv, hS⟩))
  hh := fun v hv hS => by
    unfold fire0 at hS
    rw [Bool.or_eq_false_iff] at hS
    have h2 := of_decide_eq_false hS.2
    refine ⟨?_, by omega⟩
    have : heatS n es (fun _ => false) v = 0 := sumI_zero fun u _ => if_neg Bool.false_ne_true
    rw [this]; rfl
  fo := fun T hT v hv hS => by
    unfold fire0 at hS
    rw [Bool.or_eq_true, decide_eq_true_iff, decide_eq_true_iff] at hS
    rcases hS with z | z
    · rw [z]; exact hT.1
    · cases e : T v with
      | true => rfl
      | false =>
        have h1 := hT.2 v hv e
        have h2 := heat_nonneg (n := n) (es := es) (S := T) (v := v)
        omega
def heatV (S : Nat → Bool) (h : Nat → Int) (v : Nat) : V := if S v = true then .non else .int (h v)
def heatL (n : Nat) (S : Nat → Bool) (h : Nat → Int) : List V := (List.range n).map (heatV S h)
theorem heatL_get {n : Nat} {S : Nat → Bool} {h : Nat → Int} {i : Nat} (hi : i < n) : (heatL n S h)[i]? = some (heatV S h i) := range_get hi
theorem heatL_set {n a : Nat} {S : Nat → Bool} {h : Nat → Int} {v : V} {S' : Nat → Bool} {h' : Nat → Int} (e : ∀ i, i < n → (if i = a then v else heatV S h i) = heatV S' h' i) : (heatL n S h).set a v = heatL n S' h' := by
  unfold heatL
  rw [set_range]
  exact List.map_congr_left fun i hi => e i (List.mem_range.mp hi)
theorem heatL_congr {n : Nat} {S : Nat → Bool} {h : Nat → Int} {S' : Nat → Bool} {h' : Nat → Int} (e : ∀ i, i < n → heatV S h i = heatV S' h' i) : heatL n S h = heatL n S' h' := List.map_congr_left fun i hi => e i (List.mem_range.mp hi)
theorem heatL_len {n : Nat} {S : Nat → Bool} {h : Nat → Int} : (heatL n S h).length = n := by unfold heatL; rw [List.length_map, List.length_range]
section
variable {P : Program} {w : World} {K : PySem.W.Frag} {mg : Str → Option Value} {base : Heap} {C : Addr}
abbrev n_unburnt : List Str := ["graph", "chips", "place", "heat", "waiting", "at", "other", "many"]
abbrev p_unburnt : List Str := ["graph", "chips", "place"]
theorem sc_unburnt : FnScope n_unburnt p_unburnt (defScope s_unburnt) := ⟨rfl, rfl, rfl, by decide +kernel, rfl, by decide +kernel, by decide +kernel⟩
def spUnb (m : Memo) (K : PySem.W.Frag) (C : Addr) : Sp := fun vs H Q _ => ∃ (g kd c : Addr) (R : Addr → Prop) (n : Nat) (es : List Pr) (cs : Nat → Int) (p : Nat), vs = [.ref g, .ref c, nV p] ∧ Gr m H C g kd R n es ∧ H c = some (.lst (rowF n cs)) ∧ p < n ∧
  ∀ (H' : Hp) (R' : Addr → Prop) (L : Addr) (S : Nat → Bool), Stp m C g kd n es H R H' R' → H L = none → ¬ R' L → Clo n es cs p S → (∀ T, Clo n es cs p T → ∀ v, v < n → S v = true → T v = true) → H' L = some (.lst (heatL n S (heatS n es S))) → Q (.ref L) H'
theorem ok_unburnt {m : Memo} (D : DefAt K mg "unburnt" "unburnt" s_unburnt) (B : Bt mg) (G : GraphC K C) (h_beside : Has P w K mg base CX0 1 "beside" p_beside (spBeside m C)) : Has P w K mg base CX0 2 "unburnt" p_unburnt (spUnb m K C) := by
  refine has_of D sc_unburnt (fun _ _ _ _ _ _ us hl => match us, hl with | [_, _, _], _ => rfl) (fun vs H Q E h => ?_) (fun f cdv A outer s H vs Q E hr h => ?_)
  · obtain ⟨g, kd, c, R, n, es, cs, p, rfl, _⟩ := h
    rfl
  · obtain ⟨g, kd, c, R, n, es, cs, p, rfl, gr, hc, hp, q⟩ := h
    refine ⟨_, (pss_cons (ps_set (i := 3) sc_unburnt.nd rfl (.inl rfl) (pe_op op_rep (pe_lst (pa_cons pe_int pa_nil)) (fldK (K := K) rfl (pv 0) rfl)))
  (pss_cons (ps_setLc (i := 4) (own := [("at", 5)]) (g := gName 5) (tt := _) rfl sc_unburnt.nd rfl rfl (sw_true rfl rfl rfl (by decide +kernel)) (pi_range1 rfl B.range (pa_cons (fldK (K := K) rfl (pv 0) rfl) pa_nil)) (blkOk_by (N := n_unburnt) (sc := defScope s_unburnt) (by decide +kernel)) (fun _ _ _ _ _ => (pg_name (i := 5) sc_unburnt.nd rfl (.inl rfl))) (fun _ _ _ _ _ => (pts_one (PW.pt (pw_or (pt_cmpR op_eq (pv 5) (pv 2) (nomark _)) (pw_or1 (pt_cmpR op_lt (pe_ix (ixL (K := K) rfl) (pv 1) (pv 5) (fun _ _ => rfl)) pe_int (nomark _))))))) (fun _ _ _ _ _ => (pv 5)))
  (pss_cons (ps_for PassesOwn.never rfl (piL (K := K) rfl (pv 4)) (pg_name (i := 5) sc_unburnt.nd rfl (.inl rfl)) (pss_one (ps_asg pe_non (pg_sub (pv 3) (pv 5) set_list))))
  (pss_cons (ps_while PassesOwn.never (pt_truth (pv 4) (by intro _; rfl)) (pss_one (ps_for PassesOwn.never rfl (piL (K := K) rfl (pe_ix (ixL (K := K) rfl) (pe_h h_beside hr pass0 (pa_cons (pv 0) pa_nil)) (pe_bm0 PySem.F.plainAttrs_list PySem.F.slot_list_pop PySem.F.type_list_pop mt_pop (pv 4)) (fun _ _ => rfl))) (pgT (K := K) (n := 2) rfl rfl (pgs_cons (pg_name (i := 6) sc_unburnt.nd rfl (.inl rfl)) (pgs_cons (pg_name (i := 7) sc_unburnt.nd rfl (.inl rfl)) pgs_nil))) (pss_one (ps_if (pt_cmpR op_notN (pe_ix (ixL (K := K) rfl) (pv 3) (pv 6) (fun _ _ => rfl)) pe_non (nomark _)) (pss_cons (ps_asg (pe_op op_add (pe_ix (ixL (K := K) rfl) (pv 3) (pv 6) (fun _ _ => rfl)) (pv 7)) (pg_sub (pv 3) (pv 6) set_list))
  (pss_one (ps_if (pt_cmpR op_gt (pe_ix (ixL (K := K) rfl) (pv 3) (pv 6) (fun _ _ => rfl)) (pe_ix (ixL (K := K) rfl) (pv 1) (pv 6) (fun _ _ => rfl)) (nomark _)) (pss_cons (ps_asg pe_non (pg_sub (pv 3) (pv 6) set_list))
  (pss_one (ps_expr (pe_bm PySem.F.plainAttrs_list PySem.F.slot_list_append PySem.F.type_list_append mt_append (pv 4) (pa_cons (pv 6) pa_nil))))) pss_nil))) pss_nil)))))
  (pss_one (ps_ret (pv 3))))))), ?_⟩
    have edg := gr.edg
    have good := gr.2.1
    have hn64 : n ≤ 64 := gr.2.2.2.1
    have he4 := gr.2.2.2.2.1
    obtain ⟨⟨dx, eT, vs, hg, _, _, rg, _, _⟩, _⟩ := id gr
    obtain ⟨kvs, hkd⟩ := gr.kdo
    -- heat
    refine ⟨by show 1 ≤ sizeLine; decide, fun r0 nr0 => ?_⟩
    have a1 : Same H (upd H r0 (.lst [.int 0])) := same_upd nr0
    have hr0 : (upd H r0 (.lst [.int 0])) r0 = some (.lst [.int 0]) := upd_same
    refine ⟨_, rfl, g, C, dx, _, _, rfl, a1 _ _ hg, G.cls, G.n, rfl, ?_⟩
    refine ⟨r0, n, [.int 0], rfl, rfl, hr0, by omega, by omega, size_le (by show 1 * _ ≤ _; omega), fun L1 nL1 => ?_⟩
    rw [Int.toNat_natCast, rep_range]
    have nL0 : H L1 = none := a1.free nL1
    have s1 : Same H (upd (upd H r0 (.lst [.int 0])) L1 (.lst ((List.range n).map fun _ => .int 0))) := a1.trans (same_upd nL1)
    have hL1 : (upd (upd H r0 (.lst [.int 0])) L1 (.lst ((List.range n).map fun _ => .int 0))) L1 = some (.lst ((List.range n).map fun _ => .int 0)) := upd_same
    generalize upd (upd H r0 (.lst [.int 0])) L1 (.lst ((List.range n).map fun _ => .int 0)) = H1 at s1 hL1 ⊢
    refine nx_ ?_
    -- waiting
    refine ⟨_, rfl, g, C, dx, _, _, rfl, s1 _ _ hg, G.cls, G.n, rfl, n, rfl, by omega, by omega, fun W0 nW => ?_⟩
    refine lc_range (lo := 0) (n := n) (fun i H2 => Same H1 H2 ∧ H2 W0 = some (.lst (((List.range i).filter (fire0 cs p)).map nV))) ⟨same_upd nW, upd_same⟩ ?_ ?_
    · rintro i H2 hi ⟨s2, hW⟩
      rw [zint0]
      have hlen : (((List.range i).filter (fire0 cs p)).map nV).length < sizeLine := size_lt (by
        rw [List.length_map]
        have := List.length_filter_le (fire0 cs p) (List.range i)
        rw [List.length_range] at this
        omega)
      have ef : (List.range (i + 1)).filter (fire0 cs p) = (List.range i).filter (fire0 cs p) ++ if fire0 cs p i = true then [i] else [] := by
        rw [List.range_succ, List.filter_append, List.filter_cons]; rfl
      have yes : fire0 cs p i = true → ∃ acc, H2 W0 = some (.lst acc) ∧ acc.length < sizeLine ∧ (Same H1 (upd H2 W0 (.lst (acc ++ [nV i]))) ∧ (upd H2 W0 (.lst (acc ++ [nV i]))) W0 = some (.lst (((List.range (i + 1)).filter (fire0 cs p)).map nV))) := fun hf =>
        ⟨_, hW, hlen, same_mut s2 nW, by rw [upd_same, ef, if_pos hf, List.map_append]; rfl⟩
      refine ⟨rfl, ?_⟩
      refine ⟨_, rfl, _, rfl, rfl, _, rfl, ifD (fun e => iteT ?_) (fun ne => ?_)⟩
      · have e : i = p := by
          have e : nV i = nV p := e
          injection e with e; omega
        exact ⟨_, rfl, yes (by unfold fire0; rw [decide_eq_true e]; rfl)⟩
      · have ne : ¬ i = p := fun z => ne (congrArg nV z)
        refine ⟨_, rfl, _, rfl, _, _, i, _, rfl, rfl, SqL.of ((s1.trans s2) _ _ hc), atI_nat (rowF_get hi), _, _, rfl, rfl, _, rfl, ifD (fun e => ?_) (fun ne2 => ?_)⟩
        · exact ⟨_, rfl, yes (by unfold fire0; rw [decide_eq_true e, Bool.or_true])⟩
        · refine ⟨s2, ?_⟩
          rw [ef, if_neg (by unfold fire0; rw [decide_eq_false ne, decide_eq_false ne2]; exact Bool.false_ne_true), List.append_nil]
          exact hW
    rintro H2 ⟨s2, hW⟩
    have nWL : W0 ≠ L1 := fun z => by rw [z, hL1] at nW; cases nW
    have nW0 : H W0 = none := s1.free nW
    have s02 := s1.trans s2
    have hL2 := s2 _ _ hL1
    have st2 : StX m C g kd n es (fun x => x = L1 ∨ x = W0) H R H2 R := by
      refine ((StX.refl gr).alloc s02).wide (fun x z => z.elim) fun x z => ?_
      rcases z with rfl | rfl
      · exact ⟨fun r => gr.in_ r nL0, fun z => gr.kdn (z ▸ nL0), by rw [hL2]; exact fun z => nomatch z⟩
      · exact ⟨fun r => gr.in_ r nW0, fun z => gr.kdn (z ▸ nW0), by rw [hW]; exact fun z => nomatch z⟩
    have nX : ∀ x, H x ≠ none → ¬ (x = L1 ∨ x = W0) := fun x h z => h (z.elim (fun z => z ▸ nL0) fun z => z ▸ nW0)
    have hcn : H c ≠ none := by rw [hc]; exact fun z => nomatch z
    refine nx_ ?_
    -- the first ones
    refine ⟨_, rfl, W0, rfl, ⟨_, SqL.of hW⟩, ?_⟩
    refine for_list (K := K) (a := W0) (xs := ((List.range n).filter (fire0 cs p)).map nV) (fun j σ H' => ∃ (y5 : Option V), σ = [some (.ref g), some (.ref c), some (nV p), some (.ref L1), some (.ref W0), y5, none, none] ∧ StX m C g kd n es (fun x => x = L1 ∨ x = W0) H R H' R ∧ H' W0 = some (.lst (((List.range n).filter (fire0 cs p)).map nV)) ∧ H' L1 = some (.lst (heatL n (fun v => decide (v ∈ ((List.range n).filter (fire0 cs p)).take j)) fun _ => 0))) ?_ ?_ ?_ ?_
    · refine ⟨_, rfl, st2, hW, ?_⟩
      rw [hL2]
      congr 2
    · rintro i σ H' _ ⟨_, _, _, hW', _⟩
      exact SqL.of hW'
    · rintro i x σ H' hx ⟨y5, rfl, st, hW', hL'⟩
      rw [List.getElem?_map] at hx
      obtain ⟨u, hu, rfl⟩ := Option.map_eq_some_iff.mp hx
      have hun : u < n := List.mem_range.mp (List.mem_filter.mp (List.mem_of_getElem? hu)).1
      refine ⟨_, rfl, _, rfl, L1, _, _, u, rfl, rfl, hL', Evl.ixN_nat (by rw [heatL_len]; exact hun), ?_⟩
      refine ⟨_, rfl, st.set (.inl rfl), by rw [upd_ne nWL]; exact hW', ?_⟩
      rw [upd_same, heatL_set (S' := fun v => decide (v ∈ ((List.range n).filter (fire0 cs p)).take (i + 1))) (h' := fun _ => 0) fun v hv => ?_]
      unfold heatV
      rw [List.take_add_one, hu]
      by_cases e : v = u
      · rw [if_pos e, if_pos (decide_eq_true (by rw [e]; simp))]
      · rw [if_neg e]
        congr 1
        have : decide (v ∈ ((List.range n).filter (fire0 cs p)).take i ++ [u]) = decide (v ∈ ((List.range n).filter (fire0 cs p)).take i) := decide_eq_decide.mpr (by simp [e])
        exact congrArg (· = true) this.symm
    rintro σ H3 ⟨y5, rfl, st3, hW3, hL3⟩
    rw [List.length_map, List.take_length] at hL3
    have hL3 : H3 L1 = some (.lst (heatL n (fire0 cs p) fun _ => 0)) := by
      rw [hL3]
      congr 2
      refine heatL_congr fun v hv => ?_
      unfold heatV
      have : decide (v ∈ (List.range n).filter (fire0 cs p)) = fire0 cs p v := by
        cases e : fire0 cs p v with
        | true => exact decide_eq_true (List.mem_filter.mpr ⟨List.mem_range.mpr hv, e⟩)
        | false => exact decide_eq_false fun z => by rw [(List.mem_filter.mp z).2] at e; cases e
      show (if decide (v ∈ (List.range n).filter (fire0 cs p)) = true then V.non else V.int 0) = _
      rw [this]
    refine nx_ ?_
    -- while
    refine ⟨fun mm σ' H' => ∃ (y5 y6 y7 : Option V) (R' : Addr → Prop) (S Pc : Nat → Bool) (W : List Nat) (h : Nat → Int), σ' = [some (.ref g), some (.ref c), some (nV p), some (.ref L1), some (.ref W0), y5, y6, y7] ∧ StX m C g kd n es (fun x => x = L1 ∨ x = W0) H R H' R' ∧ H' W0 = some (.lst (W.map nV)) ∧ H' L1 = some (.lst (heatL n S h)) ∧ Fire n es cs p S Pc W h (fun _ => 0) (fun _ => False) ∧ mm = muP n Pc,
      ⟨_, _, _, _, R, _, _, _, _, rfl, st3, hW3, hL3, fire_start hp, rfl⟩, ?_⟩
    rintro mm σ' H4 ⟨y5, y6, y7, R4, S, Pc, Wl, h, rfl, st4, hW4, hL4, fi, em⟩
    rcases List.eq_nil_or_concat Wl with rfl | ⟨W', x, rfl⟩
    · refine ⟨_, rfl, _, .inl ⟨_, SqL.of hW4, rfl⟩, ?_⟩
      obtain ⟨d1, d2, d3⟩ := fi.done
      refine iteF ⟨_, rfl, q H4 R4 L1 S (st4.drop fun x z => z.elim (fun z => z ▸ nL0) fun z => z ▸ nW0) nL0 (st4.own L1 (.inl rfl)).1 d1 d3 ?_⟩
      rw [hL4]
      congr 2
      refine heatL_congr fun v hv => ?_
      unfold heatV
      cases hS : S v with
      | true => rfl
      | false => rw [d2 v hv hS]
    · rw [List.concat_eq_append] at *
      obtain ⟨hx, hSx, hPx, fi1⟩ := fi.pop
      refine ⟨_, rfl, _, .inl ⟨_, SqL.of hW4, rfl⟩, ?_⟩
      rw [List.map_append]
      have ne : (!((W'.map nV) ++ [x].map nV).isEmpty) = true := by simp
      rw [ne]
      refine iteT ?_
      refine ⟨fun σ' H5 => ∃ m', m' < mm ∧ ∃ (y5 y6 y7 : Option V) (R' : Addr → Prop) (S Pc : Nat → Bool) (W : List Nat) (h : Nat → Int), σ' = [some (.ref g), some (.ref c), some (nV p), some (.ref L1), some (.ref W0), y5, y6, y7] ∧ StX m C g kd n es (fun x => x = L1 ∨ x = W0) H R H5 R' ∧ H5 W0 = some (.lst (W.map nV)) ∧ H5 L1 = some (.lst (heatL n S h)) ∧ Fire n es cs p S Pc W h (fun _ => 0) (fun _ => False) ∧ m' = muP n Pc, fun _ _ h => h, ?_⟩
      refine ⟨_, rfl, g, kd, R4, n, es, rfl, st4.gr, fun H5 R5 v b5 gr5 up5 fr5 bes => ?_⟩
      have c5 := st4.call (stp_of b5 gr5 up5 fr5)
      obtain ⟨LB, ls, rfl, rLB, hLB, lls, hl⟩ := bes
      have hW5 := b5 _ _ (st4.own W0 (.inr rfl)).2.1 hW4
      have hL5 := b5 _ _ (st4.own L1 (.inl rfl)).2.1 hL4
      refine ⟨_, rfl, .inl ⟨rfl, _, SqL.of hW5⟩, W0, _, nV x, rfl, rfl, hW5, ?_, ?_⟩
      · rw [List.map_append, List.length_append, List.length_map]
        simp
      have eW : ((W' ++ [x]).map nV).dropLast = W'.map nV := by rw [List.map_append]; simp
      rw [eW]
      have c6 : StX m C g kd n es (fun x => x = L1 ∨ x = W0) H R (upd H5 W0 (.lst (W'.map nV))) R5 := c5.set (.inr rfl)
      have b6 : But (fun x => x = L1 ∨ x = W0) H5 (upd H5 W0 (.lst (W'.map nV))) := But.mut (.inr rfl)
      have hW6 : (upd H5 W0 (.lst (W'.map nV))) W0 = some (.lst (W'.map nV)) := upd_same
      have hL6 : (upd H5 W0 (.lst (W'.map nV))) L1 = some (.lst (heatL n S h)) := by rw [upd_ne nWL.symm]; exact hL5
      generalize upd H5 W0 (.lst (W'.map nV)) = H6 at c6 b6 hW6 hL6 ⊢
      have ip : x < ls.length := by omega
      obtain ⟨ra, ws, l, k1, rt, k2, k3⟩ := hl x _ (List.getElem?_eq_getElem ip)
      have nrX : ∀ y, R5 y → ¬ (y = L1 ∨ y = W0) := fun y r z => (c6.own y z).1 r
      refine ⟨LB, _, x, .ref ls[x], rfl, rfl, SqL.of (b6 _ _ (nrX _ rLB) hLB), atI_nat (rows_get ip), ls[x], rfl, ⟨_, SqL.of (b6 _ _ (nrX _ ra) k1)⟩, ?_⟩
      refine for_list (K := K) (a := ls[x]) (xs := ws) (fun j σ H' => ∃ (y6 y7 : Option V) (S : Nat → Bool) (W : List Nat) (h : Nat → Int), σ = [some (.ref g), some (.ref c), some (nV p), some (.ref L1), some (.ref W0), y5, y6, y7] ∧ StX m C g kd n es (fun x => x = L1 ∨ x = W0) H R H' R5 ∧ But (fun x => x = L1 ∨ x = W0) H5 H' ∧ H' W0 = some (.lst (W.map nV)) ∧ H' L1 = some (.lst (heatL n S h)) ∧ Fire n es cs p S Pc W h (lineH (l.take j)) (· = x) ∧ S x = true) ?_ ?_ ?_ ?_
      · exact ⟨_, _, S, W', h, rfl, c6, b6, hW6, hL6, fi1.gcongr fun v _ => rfl, hSx⟩
      · rintro j σ H' _ ⟨_, _, _, _, _, _, _, bt, _⟩
        exact SqL.of (bt _ _ (nrX _ ra) k1)
      · rintro j y σ H' hy ⟨y6, y7, S, W, h, rfl, sx, bt, hW', hL', fj, hSx⟩
        have hj : j < l.length := by rw [← k2.len]; exact (List.getElem?_eq_some_iff.mp hy).1
        obtain ⟨t, e1, e2⟩ := k2.get hj
        rw [hy] at e1
        obtain rfl := Option.some.inj e1
        have ht := bt _ _ (nrX _ (rt t (List.mem_of_getElem? hy))) e2
        have hm : l[j].2 = mult es x l[j].1 ∧ 0 < mult es x l[j].1 := (k3.2 l[j].1 l[j].2).mp (List.getElem_mem hj)
        have hu : l[j].1 < n := mult_pos edg hm.2
        have nux : l[j].1 ≠ x := fun z => by
          have := hm.2
          rw [z, mult_self good] at this
          omega
        have hje : l[j]? = some l[j] := List.getElem?_eq_getElem hj
        have fre := line_fresh k3 hje
        generalize l[j] = e at ht hu nux hje fre hm
        obtain ⟨u, cc⟩ := e
        have hm1 : cc = mult es x u := hm.1
        have fre : lineH (l.take j) u = 0 := fre
        have et : ∀ v, lineH (l.take (j + 1)) v = lineH (l.take j) v + if u = v then (cc : Int) else 0 := fun v => by
          rw [List.take_add_one, hje]
          exact lineH_snoc
        have hWn : W.length ≤ n := nd_len fj.nd fun w hw => (fj.wS w hw).1
        have hc' : H' c = some (.lst (rowF n cs)) := sx.lst gr (nX c hcn) hc
        refine ⟨t, _, rfl, SqT.of ht, rfl, _, _, rfl, _, _, rfl, rfl, ?_⟩
        refine ⟨_, rfl, _, rfl, _, _, u, _, rfl, rfl, SqL.of hL', atI_nat (heatL_get hu), rfl, _, rfl, ?_⟩
        cases hS : S u with
        | true =>
          have ev : heatV S h u = .non := if_pos hS
          rw [ev]
          refine iteF ⟨_, _, S, W, h, rfl, sx, bt, hW', hL', (fj.skip (c := (cc : Int)) hS).gcongr fun v _ => (et v).symm, hSx⟩
        | false =>
          have ev : heatV S h u = .int (h u) := if_neg (by rw [hS]; exact Bool.false_ne_true)
          rw [ev]
          refine iteT ?_
          have gu : (heatL n S h)[u]? = some (.int (h u)) := by rw [heatL_get hu, ev]
          refine ⟨_, rfl, _, rfl, _, _, u, _, rfl, rfl, SqL.of hL', atI_nat gu, _, rfl, _, _, rfl, rfl, ?_⟩
          refine ⟨_, rfl, _, rfl, L1, _, _, u, rfl, rfl, hL', Evl.ixN_nat (by rw [heatL_len]; exact hu), ?_⟩
          rw [heatL_set (S' := S) (h' := fun v => if v = u then h u + (cc : Int) else h v) fun v hv => by
            unfold heatV
            by_cases e : v = u
            · rw [if_pos e, e, hS, if_neg Bool.false_ne_true]
              show V.int (h u + (cc : Int)) = V.int (if u = u then h u + (cc : Int) else h u)
              rw [if_pos rfl]
            · rw [if_neg e]
              show _ = if S v = true then V.non else V.int (if v = u then h u + (cc : Int) else h v)
              rw [if_neg e]]
          have sx2 : StX m C g kd n es (fun x => x = L1 ∨ x = W0) H R (upd H' L1 (.lst (heatL n S fun v => if v = u then h u + (cc : Int) else h v))) R5 := sx.set (.inl rfl)
          have bt2 : But (fun x => x = L1 ∨ x = W0) H5 (upd H' L1 (.lst (heatL n S fun v => if v = u then h u + (cc : Int) else h v))) := bt.trans (But.mut (.inl rfl))
          have hL2' : (upd H' L1 (.lst (heatL n S fun v => if v = u then h u + (cc : Int) else h v))) L1 = some (.lst (heatL n S fun v => if v = u then h u + (cc : Int) else h v)) := upd_same
          have hW2 : (upd H' L1 (.lst (heatL n S fun v => if v = u then h u + (cc : Int) else h v))) W0 = some (.lst (W.map nV)) := by rw [upd_ne nWL]; exact hW'
          generalize upd H' L1 (.lst (heatL n S fun v => if v = u then h u + (cc : Int) else h v)) = H7 at sx2 bt2 hL2' hW2 ⊢
          have hc7 : H7 c = some (.lst (rowF n cs)) := sx2.lst gr (nX c hcn) hc
          have gu2 : (heatL n S fun v => if v = u then h u + (cc : Int) else h v)[u]? = some (.int (h u + (cc : Int))) := by
            rw [heatL_get hu]
            unfold heatV
            rw [hS, if_neg Bool.false_ne_true]
            show some (V.int (if u = u then h u + (cc : Int) else h u)) = _
            rw [if_pos rfl]
          refine nx_ ?_
          refine ⟨_, rfl, _, rfl, _, _, u, _, rfl, rfl, SqL.of hL2', atI_nat gu2, _, rfl, _, rfl, _, _, u, _, rfl, rfl, SqL.of hc7, atI_nat (rowF_get hu), _, _, rfl, rfl, _, rfl, ifD (fun hot => ?_) (fun cold => ?_)⟩
          · refine ⟨_, rfl, _, rfl, L1, _, _, u, rfl, rfl, hL2', Evl.ixN_nat (by rw [heatL_len]; exact hu), ?_⟩
            rw [heatL_set (S' := fun v => if v = u then true else S v) (h' := fun v => if v = u then h u + (cc : Int) else h v) fun v hv => by
              unfold heatV
              by_cases e : v = u
              · rw [if_pos e, if_pos (if_pos e)]
              · rw [if_neg e]
                congr 1
                show (S v = true) = ((if v = u then true else S v) = true)
                rw [if_neg e]]
            have sx3 : StX m C g kd n es (fun x => x = L1 ∨ x = W0) H R (upd H7 L1 (.lst (heatL n (fun v => if v = u then true else S v) fun v => if v = u then h u + (cc : Int) else h v))) R5 := sx2.set (.inl rfl)
            have bt3 : But (fun x => x = L1 ∨ x = W0) H5 (upd H7 L1 (.lst (heatL n (fun v => if v = u then true else S v) fun v => if v = u then h u + (cc : Int) else h v))) := bt2.trans (But.mut (.inl rfl))
            have hL3' : (upd H7 L1 (.lst (heatL n (fun v => if v = u then true else S v) fun v => if v = u then h u + (cc : Int) else h v))) L1 = some (.lst (heatL n (fun v => if v = u then true else S v) fun v => if v = u then h u + (cc : Int) else h v)) := upd_same
            have hW3' : (upd H7 L1 (.lst (heatL n (fun v => if v = u then true else S v) fun v => if v = u then h u + (cc : Int) else h v))) W0 = some (.lst (W.map nV)) := by rw [upd_ne nWL]; exact hW2
            generalize upd H7 L1 (.lst (heatL n (fun v => if v = u then true else S v) fun v => if v = u then h u + (cc : Int) else h v)) = H8 at sx3 bt3 hL3' hW3' ⊢
            refine nx_ ?_
            refine ⟨_, rfl, .inl ⟨rfl, _, SqL.of hW3'⟩, _, rfl, W0, _, _, rfl, rfl, hW3', size_lt (by rw [List.length_map]; omega), ?_⟩
            refine ⟨_, _, fun v => if v = u then true else S v, W ++ [u], fun v => if v = u then h u + (cc : Int) else h v, rfl, sx3.set (.inr rfl), bt3.trans (But.mut (.inr rfl)), by rw [upd_same, List.map_append]; rfl, by rw [upd_ne nWL.symm]; exact hL3', ?_, ?_⟩
            · refine (fj.burn (c := (cc : Int)) (x := h u + (cc : Int)) hu hS nux hot fun T hT hST => ?_).gcongr fun v _ => (et v).symm
              rw [fre, Int.zero_add, hm1]
              have h1 := heat_mono (n := n) (es := es) (S := fun v => if v = x then true else Pc v) (T := T) (v := u) fun w hw hh => by
                by_cases e : w = x
                · rw [e]; exact hST x hx hSx
                · have hh : (if w = x then true else Pc w) = true := hh
                  rw [if_neg e] at hh
                  exact hST w hw (fj.pS w hh).1
              rw [heat_one hx hPx] at h1
              have h2 : mI es u x = ((mult es x u : Nat) : Int) := congrArg Nat.cast mult_sym
              rw [h2] at h1
              exact h1
            · show (if x = u then true else S x) = true
              split
              · rfl
              · exact hSx
          · have cold : h u + (cc : Int) ≤ cs u := by omega
            exact ⟨_, _, S, W, _, rfl, sx2, bt2, hW2, hL2', (fj.warm hu hS cold).gcongr fun v _ => (et v).symm, hSx⟩
      · rintro σ H7 ⟨y6, y7, S, W, h, rfl, sx, bt, hW', hL', fj, hSx⟩
        rw [k2.len, List.take_length] at fj
        refine ⟨muP n (fun v => if v = x then true else Pc v), ?_, _, _, _, R5, S, _, W, h, rfl, sx, hW', hL', fj.told hx hSx hPx fun v hv => lineH_end k3 (fun u hu => mult_pos edg hu) hv, rfl⟩
        rw [em]
        exact mu_told hx hPx
end
end G3

set_option Elab.async false
set_option linter.all false
set_option maxRecDepth 100000
set_option maxHeartbeats 4000000
namespace G3
open PySem PySem.Spec PyProof.Rows L2
theorem getD_range {n i : Nat} {f : Nat → Int} (h : i < n) : ((List.range n).map f).getD i 0 = f i := by
  rw [List.getD_eq_getElem?_getD, List.getElem?_map, List.getElem?_range h]; rfl
theorem val_abs {n : Nat} {es : List Pr} (hn : n ≤ 64) (he : es.length ≤ 400) (v : Nat) : (sumI n fun u => mI es v u).natAbs ≤ 51200 := by
  refine Nat.le_trans (sumI_abs (g := fun _ => 800) fun w _ => ?_) ?_
  · rw [mI_abs]
    have := mult_le (es := es) (i := v) (u := w)
    omega
  · have := sum_le (f := fun _ => 800) (b := 800) (n := n) fun _ _ => Nat.le_refl _
    omega
section
variable {P : Program} {w : World} {K : PySem.W.Frag} {mg : Str → Option Value} {base : Heap} {C : Addr}
abbrev n_cleared_up : List Str := ["graph", "chips", "place", "under", "row", "script", "later", "number", "more", "at", "many"]
abbrev p_cleared_up : List Str := ["graph", "chips", "place"]
theorem sc_cleared_up : FnScope n_cleared_up p_cleared_up (defScope s_cleared_up) := ⟨rfl, rfl, rfl, by decide +kernel, rfl, by decide +kernel, by decide +kernel⟩
def spLedF (m : Memo) (C : Addr) : Sp := fun vs H Q _ => ∃ (g kd c0 q0 : Addr) (R : Addr → Prop) (n : Nat) (es : List Pr) (cs s : Nat → Int), vs = [.ref g, .ref c0, .ref q0] ∧ Gr m H C g kd R n es ∧ H c0 = some (.lst (rowF n cs)) ∧ H q0 = some (.lst (rowF n s)) ∧
  ∀ (H' : Hp) (R' : Addr → Prop) (L : Addr), Stp m C g kd n es H R H' R' → H L = none → ¬ R' L → H' L = some (.lst (rowF n fun v => cs v - lapF n es s v)) → Q (.ref L) H'
theorem ledF {m : Memo} {k : Nat} (h : Has P w K mg base CX0 k "led" p_led (spLed m C)) : Has P w K mg base CX0 k "led" p_led (spLedF m C) := h.imp fun vs H Q E hh => by
  obtain ⟨g, kd, c0, q0, R, n, es, cs, s, rfl, gr, hc, hq, q⟩ := hh
  rw [rowF_map] at hc hq
  refine ⟨g, kd, c0, q0, R, n, es, _, _, rfl, gr, hc, hq, by rw [List.length_map, List.length_range], by rw [List.length_map, List.length_range], fun H' R' L b gr' up fr nL nR hL => ?_⟩
  refine q H' R' L (stp_of b gr' up fr) nL nR ?_
  rw [hL, rowF_map]
  unfold ledOf
  congr 3
  refine List.map_congr_left fun i hi => ?_
  have hi := List.mem_range.mp hi
  rw [getD_range hi, lapF_sent]
  congr 1
  exact lapF_congr (fun u hu => getD_range hu) hi
def spValF (m : Memo) (C : Addr) : Sp := fun vs H Q _ => ∃ (g kd : Addr) (R : Addr → Prop) (n : Nat) (es : List Pr), vs = [.ref g] ∧ Gr m H C g kd R n es ∧
  ∀ (H' : Hp) (R' : Addr → Prop) (L : Addr), Stp m C g kd n es H R H' R' → H L = none → ¬ R' L → H' L = some (.lst (rowF n fun v => sumI n fun u => mI es v u)) → Q (.ref L) H'
theorem valF {m : Memo} {k : Nat} (h : Has P w K mg base CX0 k "valences" p_valences (spValences m C)) : Has P w K mg base CX0 k "valences" p_valences (spValF m C) := h.imp fun vs H Q E hh => by
  obtain ⟨g, kd, R, n, es, rfl, gr, q⟩ := hh
  refine ⟨g, kd, R, n, es, rfl, gr, fun H' R' L b gr' up fr nL nR hL => ?_⟩
  refine q H' R' L (stp_of b gr' up fr) nL nR ?_
  rw [hL, rowF_map]
  congr 3
  refine List.map_congr_left fun i hi => ?_
  exact sumI_congr fun u _ => Int.mul_one _
def spClr (m : Memo) (C : Addr) : Sp := fun vs H Q _ => ∃ (g kd c : Addr) (R : Addr → Prop) (n : Nat) (es : List Pr) (cs : Nat → Int) (p : Nat), vs = [.ref g, .ref c, nV p] ∧ Gr m H C g kd R n es ∧ H c = some (.lst (rowF n cs)) ∧ p < n ∧ (∀ v, v < n → (cs v).natAbs < 2 ^ bigE) ∧
  ∀ (H' : Hp) (R' : Addr → Prop) (T S L : Addr) (s : Nat → Int), Stp m C g kd n es H R H' R' → H S = none → H L = none → S ≠ L → ¬ R' S → ¬ R' L → H' T = some (.tup [.ref S, .ref L]) → H' S = some (.lst (rowF n s)) → H' L = some (.lst (rowF n fun v => cs v - lapF n es s v)) → s p = 0 → (∀ v, v < n → v ≠ p → 0 ≤ cs v - lapF n es s v) → Q (.ref T) H'
theorem ok_cleared_up {m : Memo} (D : DefAt K mg "cleared_up" "cleared_up" s_cleared_up) (B : Bt mg) (h_undone : Has P w K mg base CX0 4 "undone" p_undone (spUnd m C)) (h_led : Has P w K mg base CX0 3 "led" p_led (spLedF m C)) (h_valences : Has P w K mg base CX0 2 "valences" p_valences (spValF m C)) : Has P w K mg base CX0 5 "cleared_up" p_cleared_up (spClr m C) := by
  refine has_of D sc_cleared_up (fun _ _ _ _ _ _ us hl => match us, hl with | [_, _, _], _ => rfl) (fun vs H Q E h => ?_) (fun f cdv A outer s H vs Q E hr h => ?_)
  · obtain ⟨g, kd, c, R, n, es, cs, p, rfl, _⟩ := h
    rfl
  · obtain ⟨g, kd, c, R, n, es, cs, p, rfl, gr, hc, hp, hb, q⟩ := h
    refine ⟨_, (pss_cons (ps_asg (pe_h h_undone hr pass0 (pa_cons (pv 0) (pa_cons (pv 1) (pa_cons (pv 2) pa_nil)))) (pgT (K := K) (n := 2) rfl rfl (pgs_cons (pg_name (i := 3) sc_cleared_up.nd rfl (.inr rfl)) (pgs_cons (pg_name (i := 4) sc_cleared_up.nd rfl (.inl rfl)) pgs_nil))))
  (pss_cons (ps_setLc (i := 5) (own := [("number", 7)]) (g := gName 7) (tt := tYes) rfl sc_cleared_up.nd rfl rfl (sw_true rfl rfl rfl (by decide +kernel)) (piL (K := K) rfl (pv 4)) (blkOk_by (N := n_cleared_up) (sc := defScope s_cleared_up) (by decide +kernel)) (fun _ _ _ _ _ => (pg_name (i := 7) sc_cleared_up.nd rfl (.inl rfl))) (fun _ _ _ _ _ => pts_nil) (fun _ _ _ _ _ => (pe_op op_fdivW (pv 7) (pv 3))))
  (pss_cons (ps_set (i := 6) sc_cleared_up.nd rfl (.inl rfl) (pe_h h_led hr pass0 (pa_cons (pv 0) (pa_cons (pv 1) (pa_cons (pv 5) pa_nil)))))
  (pss_cons (ps_if (pt_val (pe_callB (allK (K := K) rfl rfl) rfl B.all (by decide +kernel) (pa_cons (pe_lc (own := [("at", 9), ("many", 10)]) (g := _) (tt := _) rfl sc_cleared_up.nd (pi_enum rfl B.enumerate (pa_cons (pv 6) pa_nil)) (blkOk_by (N := n_cleared_up) (sc := defScope s_cleared_up) (by decide +kernel)) (fun _ _ _ _ _ => (pgT (K := K) (n := 2) rfl rfl (pgs_cons (pg_name (i := 9) sc_cleared_up.nd rfl (.inl rfl)) (pgs_cons (pg_name (i := 10) sc_cleared_up.nd rfl (.inl rfl)) pgs_nil)))) (fun _ _ _ _ _ => (pts_one (pt_cmpR op_ne (pv 9) (pv 2) (nomark _)))) (fun _ _ _ _ _ => (pe_cmpR op_ge (pv 10) pe_int (nomark _)))) pa_nil))) (pss_one (ps_ret (pe_tup (pa_cons (pv 5) (pa_cons (pv 6) pa_nil))))) pss_nil)
  (pss_cons (ps_asg (pe_h h_undone hr pass0 (pa_cons (pv 0) (pa_cons (pe_lc (own := [("many", 10)]) (g := gName 10) (tt := tYes) rfl sc_cleared_up.nd (piL (K := K) rfl (pe_h h_valences hr pass0 (pa_cons (pv 0) pa_nil))) (blkOk_by (N := n_cleared_up) (sc := defScope s_cleared_up) (by decide +kernel)) (fun _ _ _ _ _ => (pg_name (i := 10) sc_cleared_up.nd rfl (.inl rfl))) (fun _ _ _ _ _ => pts_nil) (fun _ _ _ _ _ => (pe_op op_mul pe_int (pv 10)))) (pa_cons (pv 2) pa_nil)))) (pgT (K := K) (n := 2) rfl rfl (pgs_cons (pg_name (i := 3) sc_cleared_up.nd rfl (.inr rfl)) (pgs_cons (pg_name (i := 4) sc_cleared_up.nd rfl (.inl rfl)) pgs_nil))))
  (pss_cons (ps_setLc (i := 5) (own := [("number", 7), ("more", 8)]) (g := _) (tt := tYes) rfl sc_cleared_up.nd rfl rfl (sw_true rfl rfl rfl (by decide +kernel)) (pi_zip rfl B.zip (pa_cons (pv 5) (pa_cons (pv 4) pa_nil))) (blkOk_by (N := n_cleared_up) (sc := defScope s_cleared_up) (by decide +kernel)) (fun _ _ _ _ _ => (pgT (K := K) (n := 2) rfl rfl (pgs_cons (pg_name (i := 7) sc_cleared_up.nd rfl (.inl rfl)) (pgs_cons (pg_name (i := 8) sc_cleared_up.nd rfl (.inl rfl)) pgs_nil)))) (fun _ _ _ _ _ => pts_nil) (fun _ _ _ _ _ => (pe_op op_add (pv 7) (pe_op op_fdivW (pe_un un_neg (pv 8)) (pv 3)))))
  (pss_one (ps_ret (pe_tup (pa_cons (pv 5) (pa_cons (pe_h h_led hr pass0 (pa_cons (pv 0) (pa_cons (pv 1) (pa_cons (pv 5) pa_nil)))) pa_nil))))))))))), ?_⟩
    have hn64 : n ≤ 64 := gr.2.2.2.1
    have he4 := gr.2.2.2.2.1
    refine ⟨_, rfl, _, rfl, _, rfl, g, kd, c, R, n, es, cs, p, rfl, gr, hc, hp, hb, fun H1 R1 T1 L1 D1 U1 st1 hI1 nL1 nR1 hT1 hL1 => ?_⟩
    refine ⟨T1, _, rfl, SqT.of hT1, rfl, _, _, rfl, _, _, rfl, rfl, ?_⟩
    refine nx_ ?_
    have hD1 : D1.natAbs < 2 ^ 1409 := by
      have := hI1.2.d
      have h2 := det_bound (b := lapB) (n := n - 1) (M := lapA n es) fun r hr => lapA_row hn64 he4 (by omega) r
      rw [← this] at h2
      exact Nat.lt_of_le_of_lt h2 (lapB_pow (by omega))
    -- script
    refine ⟨_, rfl, L1, rfl, ⟨_, SqL.of hL1⟩, fun S nS => ?_⟩
    refine lc_list (K := K) (a := L1) (xs := rowF n (undF n U1 cs p)) (fun i H2 => Same H1 H2 ∧ H2 S = some (.lst (rowF i fun v => undF n U1 cs p v / D1))) ⟨same_upd nS, upd_same⟩ (fun i H2 _ p => SqL.of (p.1 _ _ hL1)) ?_ ?_
    · rintro i x H2 hx ⟨s2, hS⟩
      have hi : i < n := by have := (List.getElem?_eq_some_iff.mp hx).1; rwa [rowF_len] at this
      rw [rowF_get hi] at hx
      obtain rfl := Option.some.inj hx
      refine ⟨rfl, yes_ ?_⟩
      refine ⟨_, rfl, _, rfl, _, _, rfl, rfl, wide_div hI1.1 hD1 (by decide) (by decide), ?_⟩
      refine ⟨_, hS, size_lt (by rw [rowF_len]; omega), same_mut s2 nS, ?_⟩
      rw [upd_same, rowF_succ]
    rintro H2 ⟨s2, hS⟩
    rw [rowF_len] at hS
    generalize hs1 : (fun v => undF n U1 cs p v / D1) = s1 at hS
    have st2 : StX m C g kd n es (fun x => x = S) H R H2 R1 := (st1.alloc s2).wide (fun x z => z.elim) fun x z => by
      subst z
      exact ⟨fun r => st1.gr.in_ r nS, fun z => st1.gr.kdn (z ▸ nS), by rw [hS]; exact fun z => nomatch z⟩
    have nS0 : H S = none := st1.nn _ nS
    have hcS : ∀ x, H x ≠ none → ¬ x = S := fun x h z => h (z ▸ nS0)
    have hcn : H c ≠ none := by rw [hc]; exact fun z => nomatch z
    have hc2 := st2.lst gr (hcS c hcn) hc
    refine nx_ ?_
    -- later
    refine ⟨_, rfl, _, rfl, _, rfl, g, kd, c, S, R1, n, es, cs, s1, rfl, st2.gr, hc2, hS, fun H3 R3 L c3 nL nR3 hL => ?_⟩
    have st3 := st2.call c3
    have hS3 := c3.lst st2.gr (fun z => z) hS
    have nSL : S ≠ L := fun z => by rw [← z, hS] at nL; cases nL
    refine nx_ ?_
    refine ⟨_, rfl, L, _, rfl, SqL.of hL, fun A0 nA => ?_⟩
    refine lc_it (walk_enum (K := K) (a := L) (xs := rowF n fun v => cs v - lapF n es s1 v)) (fun i H4 => Same H3 H4 ∧ H4 A0 = some (.lst ((((List.range i).filter fun v => decide (v ≠ p)).map fun v => decide (0 ≤ cs v - lapF n es s1 v)).map V.bl))) ⟨same_upd nA, upd_same⟩ (fun i H4 _ p => SqL.of (p.1 _ _ hL)) ?_ ?_
    · rintro i v H4 H5 hi ⟨s4, hA⟩ ⟨T, x, y, rfl, nT, rfl, hx, hy⟩
      obtain rfl : V.int (i : Nat) = x := Option.some.inj hx
      have hi : i < n := by rw [rowF_len] at hi; exact hi
      have hy : (rowF n fun v => cs v - lapF n es s1 v)[i]? = some y := hy
      rw [rowF_get hi] at hy
      obtain rfl := Option.some.inj hy
      have sT : Same H4 (upd H4 T (.tup [.int (i : Nat), .int (cs i - lapF n es s1 i)])) := same_upd nT
      have ef : (List.range (i + 1)).filter (fun v => decide (v ≠ p)) = (List.range i).filter (fun v => decide (v ≠ p)) ++ if i ≠ p then [i] else [] := by
        rw [List.range_succ, List.filter_append, List.filter_cons]
        by_cases e : i = p
        · rw [if_neg (by rw [decide_eq_false (fun z => z e)]; exact Bool.false_ne_true), if_neg (fun z => z e)]; rfl
        · rw [if_pos (decide_eq_true e), if_pos e]; rfl
      refine ⟨T, _, rfl, SqT.of upd_same, rfl, _, _, rfl, _, _, rfl, rfl, rfl, ?_⟩
      refine ⟨_, rfl, _, rfl, rfl, _, rfl, ifN (fun ne => ?_) (fun e => ?_)⟩
      · have ne : i ≠ p := fun z => ne (congrArg nV z)
        refine ⟨_, rfl, _, _, rfl, rfl, ?_⟩
        refine ⟨_, sT _ _ hA, size_lt ?_, same_mut (s4.trans sT) nA, ?_⟩
        · rw [List.length_map, List.length_map]
          have := List.length_filter_le (fun v => decide (v ≠ p)) (List.range i)
          rw [List.length_range] at this
          omega
        · rw [upd_same, ef, if_pos ne, List.map_append, List.map_append]; rfl
      · have e : i = p := by
          have e : nV i = nV p := e
          injection e with e; omega
        refine ⟨s4.trans sT, ?_⟩
        rw [ef, if_neg (fun z => z e), List.append_nil]
        exact sT _ _ hA
    rintro H4 ⟨s4, hA⟩
    rw [rowF_len] at hA
    refine ⟨A0, _, rfl, SqL.of hA, _, rfl, ?_⟩
    have hall : ((((List.range n).filter fun v => decide (v ≠ p)).map fun v => decide (0 ≤ cs v - lapF n es s1 v)).all id) = true ↔ ∀ v, v < n → v ≠ p → 0 ≤ cs v - lapF n es s1 v := by
      rw [List.all_eq_true]
      constructor
      · intro h v hv hne
        have := h _ (List.mem_map.mpr ⟨v, List.mem_filter.mpr ⟨List.mem_range.mpr hv, decide_eq_true hne⟩, rfl⟩)
        exact of_decide_eq_true this
      · intro h b hb
        obtain ⟨v, hv, rfl⟩ := List.mem_map.mp hb
        obtain ⟨h1, h2⟩ := List.mem_filter.mp hv
        exact decide_eq_true (h v (List.mem_range.mp h1) (of_decide_eq_true h2))
    have st4 := st3.alloc s4
    have hs1p : s1 p = 0 := by rw [← hs1]; show undF n U1 cs p p / D1 = 0; rw [undF_at, Int.zero_ediv]
    have hL4 := s4 _ _ hL
    have hS4 := s4 _ _ hS3
    have nL0 : H L = none := st2.nn _ nL
    refine ifB (fun e => ?_) (fun _ => ?_)
    · refine ⟨_, rfl, _, rfl, by show 2 ≤ sizeLine; decide, fun T nT => ?_⟩
      have sT := same_upd (o := HO.tup [.ref S, .ref L]) nT
      exact q _ R3 T S L s1 ((st4.alloc sT).drop fun x z => z ▸ nS0) nS0 nL0 nSL (st3.own S rfl).1 nR3 upd_same (sT _ _ hS4) (sT _ _ hL4) hs1p (hall.mp e)
    refine nx_ ?_
    -- the second row
    refine ⟨_, rfl, _, rfl, g, kd, R3, n, es, rfl, st4.gr, fun H5 R5 V5 c5 nV nRV hV => ?_⟩
    have st5 := st4.call c5
    refine ⟨V5, rfl, ⟨_, SqL.of hV⟩, fun M0 nM => ?_⟩
    refine lc_list (K := K) (a := V5) (xs := rowF n fun v => sumI n fun u => mI es v u) (fun i H6 => Same H5 H6 ∧ H6 M0 = some (.lst (rowF i fun v => 2 * sumI n fun u => mI es v u))) ⟨same_upd nM, upd_same⟩ (fun i H6 _ p => SqL.of (p.1 _ _ hV)) ?_ ?_
    · rintro i x H6 hx ⟨s6, hM⟩
      have hi : i < n := by have := (List.getElem?_eq_some_iff.mp hx).1; rwa [rowF_len] at this
      rw [rowF_get hi] at hx
      obtain rfl := Option.some.inj hx
      refine ⟨rfl, yes_ ?_⟩
      refine ⟨_, rfl, _, _, rfl, rfl, .inl ⟨by decide, by decide⟩, ?_⟩
      refine ⟨_, hM, size_lt (by rw [rowF_len]; omega), same_mut s6 nM, ?_⟩
      rw [upd_same, rowF_succ]
    rintro H6 ⟨s6, hM⟩
    rw [rowF_len] at hM
    have st6 := st5.alloc s6
    refine ⟨_, rfl, g, kd, M0, R5, n, es, _, p, rfl, st6.gr, hM, hp, fun v hv => ?_, fun H7 R7 T7 L7 D7 U7 c7 hI7 nL7 nR7 hT7 hL7 => ?_⟩
    · have := val_abs (es := es) hn64 he4 v
      refine Nat.lt_of_le_of_lt (m := 102400) (by omega) (Nat.lt_of_lt_of_le (by decide : 102400 < 2 ^ 17) (Nat.pow_le_pow_right (by decide) (by decide)))
    have eD : D7 = D1 := by rw [hI7.2.d, hI1.2.d]
    subst eD
    have st7 := st6.call c7
    refine ⟨T7, _, rfl, SqT.of hT7, rfl, _, _, rfl, _, _, rfl, rfl, ?_⟩
    have hS5 := c5.lst st4.gr (fun z => z) hS4
    have hS7 := c7.lst st6.gr (fun z => z) (s6 _ _ hS5)
    refine nx_ ?_
    refine ⟨_, rfl, _, rfl, S, L7, _, _, rfl, SqL.of hS7, SqL.of hL7, fun S2 nS2 => ?_⟩
    refine lc_it (walk_zip (K := K) (a := S) (b := L7) (xs := rowF n s1) (ys := rowF n (undF n U7 (fun v => 2 * sumI n fun u => mI es v u) p)) (n := n) (by rw [rowF_len, rowF_len, Nat.min_self])) (fun t H8 => Same H7 H8 ∧ H8 S2 = some (.lst (rowF t fun v => s1 v + -(undF n U7 (fun v => 2 * sumI n fun u => mI es v u) p v) / D7))) ⟨same_upd nS2, upd_same⟩ (fun t H8 _ p => ⟨SqL.of (p.1 _ _ hS7), SqL.of (p.1 _ _ hL7)⟩) ?_ ?_
    · rintro t v H8 H9 ht ⟨s8, hS2⟩ ⟨T, x, y, rfl, nT, rfl, hx, hy⟩
      have hx : (rowF n s1)[t]? = some x := hx
      have hy : (rowF n (undF n U7 (fun v => 2 * sumI n fun u => mI es v u) p))[t]? = some y := hy
      rw [rowF_get ht] at hx hy
      obtain rfl := Option.some.inj hx
      obtain rfl := Option.some.inj hy
      have sT := same_upd (o := HO.tup [.int (s1 t), .int (undF n U7 (fun v => 2 * sumI n fun u => mI es v u) p t)]) nT
      refine ⟨T, _, rfl, SqT.of upd_same, rfl, _, _, rfl, _, _, rfl, rfl, rfl, yes_ ?_⟩
      refine ⟨_, rfl, _, rfl, _, rfl, _, rfl, _, _, rfl, rfl, wide_div hI1.1 hD1 (by decide) (by decide), _, _, rfl, rfl, ?_⟩
      refine ⟨_, sT _ _ hS2, size_lt (by rw [rowF_len]; omega), same_mut (s8.trans sT) nS2, ?_⟩
      rw [upd_same, rowF_succ]
    rintro H8 ⟨s8, hS2⟩
    generalize hs2 : (fun v => s1 v + -(undF n U7 (fun v => 2 * sumI n fun u => mI es v u) p v) / D7) = s2' at hS2
    have nS20 : H S2 = none := st7.nn _ nS2
    have st8 : StX m C g kd n es (fun x => x = S2) H R H8 R7 := ((st7.alloc s8).less (Y := fun _ => False) (fun x z => z.elim) (fun x z => .inr (z ▸ nS0))).wide (fun x z => z.elim) fun x z => by
      subst z
      exact ⟨fun r => st7.gr.in_ r nS2, fun z => st7.gr.kdn (z ▸ nS2), by rw [hS2]; exact fun z => nomatch z⟩
    have hc8 := st8.lst gr (fun z : c = S2 => hcn (by rw [z]; exact nS20)) hc
    refine nx_ ?_
    refine ⟨_, rfl, _, rfl, _, rfl, _, rfl, g, kd, c, S2, R7, n, es, cs, s2', rfl, st8.gr, hc8, hS2, fun H9 R9 L9 c9 nL9 nR9 hL9 => ?_⟩
    have st9 := st8.call c9
    have hS9 := c9.lst st8.gr (fun z => z) hS2
    have nSL9 : S2 ≠ L9 := fun z => by rw [← z, hS2] at nL9; cases nL9
    refine ⟨by show 2 ≤ sizeLine; decide, fun T nT => ?_⟩
    have sT := same_upd (o := HO.tup [.ref S2, .ref L9]) nT
    refine q _ R9 T S2 L9 s2' ((st9.alloc sT).drop fun x z => z ▸ nS20) nS20 (st8.nn _ nL9) nSL9 (st9.own S2 rfl).1 nR9 upd_same (sT _ _ hS9) (sT _ _ hL9) ?_ ?_
    · rw [← hs2]
      show s1 p + -(undF n U7 _ p p) / D7 = 0
      rw [hs1p, undF_at, Int.neg_zero, Int.zero_ediv]; rfl
    · refine cleared hI1.1 (F := undF n U1 cs p) (G := undF n U7 (fun v => 2 * sumI n fun u => mI es v u) p) (fun v hv hne => ?_) (fun v hv hne => ?_) fun v hv => ?_
      · rw [undF_lap hI1 hp hv]
        unfold restF
        rw [if_neg hne]
      · rw [undF_lap hI7 hp hv]
        unfold restF
        rw [if_neg hne]
      · rw [← hs2, ← hs1]
end
end G3

set_option Elab.async false
set_option linter.all false
set_option maxRecDepth 100000
set_option maxHeartbeats 4000000
namespace G3
open PySem PySem.Spec PyProof.Rows L2
theorem fil_sum {n : Nat} {p : Nat → Bool} {f : Nat → Int} : (((List.range n).filter p).map f).sum = sumI n fun v => if p v = true then f v else 0 := by
  induction n with
  | zero => rfl
  | succ n ih =>
    rw [List.range_succ, List.filter_append, List.map_append, List.sum_append, sumI_succ, ih, List.filter_cons]
    congr 1
    by_cases c : p n = true
    · rw [if_pos c, if_pos c]
      show f n + 0 = f n
      omega
    · rw [if_neg c, if_neg c]; rfl
def leftL (n : Nat) (S : Nat → Bool) : List Nat := (List.range n).filter fun v => !S v
theorem left_mem {n v : Nat} {S : Nat → Bool} : v ∈ leftL n S ↔ v < n ∧ S v = false := by
  unfold leftL
  rw [List.mem_filter, List.mem_range]
  cases S v <;> simp
/-- chips while the first ones of a list fire -/
def fireC (n : Nat) (es : List Pr) (S : Nat → Bool) (t : Int) (cur : Nat → Int) (l : List Nat) (v : Nat) : Int := if S v = true then cur v + t * (l.map fun u => mI es v u).sum else if v ∈ l then cur v - t * heatS n es S v else cur v
theorem fireC_end {n : Nat} {es : List Pr} {S : Nat → Bool} {t : Int} {cur : Nat → Int} {v : Nat} (hv : v < n) : fireC n es S t cur (leftL n S) v = cur v - lapF n es (fun u => if S u = true then 0 else t) v := by
  rw [lapF_out]
  unfold fireC
  cases hS : S v with
  | true =>
    rw [if_pos rfl, if_pos rfl]
    have : ((leftL n S).map fun u => mI es v u).sum = sumI n fun u => if S u = true then 0 else mI es v u := by
      unfold leftL
      rw [fil_sum]
      refine sumI_congr fun u _ => ?_
      cases S u <;> rfl
    rw [this]; omega
  | false => rw [if_neg Bool.false_ne_true, if_pos (left_mem.mpr ⟨hv, hS⟩), if_neg Bool.false_ne_true]
section
variable {P : Program} {w : World} {K : PySem.W.Frag} {mg : Str → Option Value} {base : Heap} {C : Addr}
abbrev n_settle : List Str := ["graph", "chips", "script", "place", "heat", "left", "times", "at", "other", "many"]
abbrev p_settle : List Str := ["graph", "chips", "script", "place"]
theorem sc_settle : FnScope n_settle p_settle (defScope s_settle) := ⟨rfl, rfl, rfl, by decide +kernel, rfl, by decide +kernel, by decide +kernel⟩
abbrev n_led_down : List Str := ["graph", "chips", "place", "script", "later"]
abbrev p_led_down : List Str := ["graph", "chips", "place"]
theorem sc_led_down : FnScope n_led_down p_led_down (defScope s_led_down) := ⟨rfl, rfl, rfl, by decide +kernel, rfl, by decide +kernel, by decide +kernel⟩
def spSet (m : Memo) (C : Addr) : Sp := fun vs H Q _ => ∃ (g kd c s0 : Addr) (R : Addr → Prop) (n : Nat) (es : List Pr) (cs sc : Nat → Int) (p : Nat), vs = [.ref g, .ref c, .ref s0, nV p] ∧ Gr m H C g kd R n es ∧ H c = some (.lst (rowF n cs)) ∧ H s0 = some (.lst (rowF n sc)) ∧ c ≠ s0 ∧ ¬ R c ∧ ¬ R s0 ∧ p < n ∧ (∀ v, v < n → v ≠ p → 0 ≤ cs v) ∧
  ∀ (H' : Hp) (R' : Addr → Prop) (f : Nat → Int), StX m C g kd n es (fun x => x = c ∨ x = s0) H R H' R' → H' c = some (.lst (rowF n fun v => cs v - lapF n es f v)) → H' s0 = some (.lst (rowF n fun v => sc v + f v)) → f p = 0 → Low n es (fun v => cs v - lapF n es f v) p → Q .non H'
theorem ok_settle {m : Memo} (D : DefAt K mg "settle" "settle" s_settle) (B : Bt mg) (G : GraphC K C) (h_unburnt : Has P w K mg base CX0 2 "unburnt" p_unburnt (spUnb m K C)) (h_beside : Has P w K mg base CX0 1 "beside" p_beside (spBeside m C)) : Has P w K mg base CX0 3 "settle" p_settle (spSet m C) := by
  refine has_of D sc_settle (fun _ _ _ _ _ _ us hl => match us, hl with | [_, _, _, _], _ => rfl) (fun vs H Q E h => ?_) (fun f cdv A outer s H vs Q E hr h => ?_)
  · obtain ⟨g, kd, c, s0, R, n, es, cs, sc, p, rfl, _⟩ := h
    rfl
  · obtain ⟨g, kd, c, s0, R, n, es, cs, sc, p, rfl, gr, hc, hs, ncs, nRc, nRs, hp, h0, q⟩ := h
    refine ⟨_, (pss_one (ps_while PassesOwn.never (pt_val pe_bl) (pss_cons (ps_set (i := 4) sc_settle.nd rfl (.inr rfl) (pe_h h_unburnt hr pass0 (pa_cons (pv 0) (pa_cons (pv 1) (pa_cons (pv 3) pa_nil)))))
  (pss_cons (ps_setLc (i := 5) (own := [("at", 7)]) (g := gName 7) (tt := _) rfl sc_settle.nd rfl rfl (sw_true rfl rfl rfl (by decide +kernel)) (pi_range1 rfl B.range (pa_cons (fldK (K := K) rfl (pv 0) rfl) pa_nil)) (blkOk_by (N := n_settle) (sc := defScope s_settle) (by decide +kernel)) (fun _ _ _ _ _ => (pg_name (i := 7) sc_settle.nd rfl (.inl rfl))) (fun _ _ _ _ _ => (pts_one (pt_cmpR op_notN (pe_ix (ixL (K := K) rfl) (pv 4) (pv 7) (fun _ _ => rfl)) pe_non (nomark _)))) (fun _ _ _ _ _ => (pv 7)))
  (pss_cons (ps_if (pt_not (pt_truth (pv 5) (by intro _; rfl))) (pss_one ps_retN) pss_nil)
  (pss_cons (ps_set (i := 6) sc_settle.nd rfl (.inl rfl) (pe_callB (L2.cr_min rfl) rfl B.min (by decide +kernel) (pa_cons (pe_lc (own := [("at", 7)]) (g := gName 7) (tt := _) rfl sc_settle.nd (piL (K := K) rfl (pv 5)) (blkOk_by (N := n_settle) (sc := defScope s_settle) (by decide +kernel)) (fun _ _ _ _ _ => (pg_name (i := 7) sc_settle.nd rfl (.inl rfl))) (fun _ _ _ _ _ => (pts_one (pt_cmpR op_gt (pe_ix (ixL (K := K) rfl) (pv 4) (pv 7) (fun _ _ => rfl)) pe_int (nomark _)))) (fun _ _ _ _ _ => (pe_op op_fdiv (pe_ix (ixL (K := K) rfl) (pv 1) (pv 7) (fun _ _ => rfl)) (pe_ix (ixL (K := K) rfl) (pv 4) (pv 7) (fun _ _ => rfl))))) pa_nil)))
  (pss_one (ps_for PassesOwn.never rfl (piL (K := K) rfl (pv 5)) (pg_name (i := 7) sc_settle.nd rfl (.inl rfl)) (pss_cons (ps_asg (pe_op op_add (pe_ix (ixL (K := K) rfl) (pv 2) (pv 7) (fun _ _ => rfl)) (pv 6)) (pg_sub (pv 2) (pv 7) set_list))
  (pss_cons (ps_asg (pe_op op_sub (pe_ix (ixL (K := K) rfl) (pv 1) (pv 7) (fun _ _ => rfl)) (pe_op op_mul (pv 6) (pe_ix (ixL (K := K) rfl) (pv 4) (pv 7) (fun _ _ => rfl)))) (pg_sub (pv 1) (pv 7) set_list))
  (pss_one (ps_for PassesOwn.never rfl (piL (K := K) rfl (pe_ix (ixL (K := K) rfl) (pe_h h_beside hr pass0 (pa_cons (pv 0) pa_nil)) (pv 7) (fun _ _ => rfl))) (pgT (K := K) (n := 2) rfl rfl (pgs_cons (pg_name (i := 8) sc_settle.nd rfl (.inl rfl)) (pgs_cons (pg_name (i := 9) sc_settle.nd rfl (.inl rfl)) pgs_nil))) (pss_one (ps_if (pt_cmpR op_isN (pe_ix (ixL (K := K) rfl) (pv 4) (pv 8) (fun _ _ => rfl)) pe_non (nomark _)) (pss_one (ps_asg (pe_op op_add (pe_ix (ixL (K := K) rfl) (pv 1) (pv 8) (fun _ _ => rfl)) (pe_op op_mul (pv 6) (pv 9))) (pg_sub (pv 1) (pv 8) set_list))) pss_nil)))))))))))))), ?_⟩
    have edg := gr.edg
    have good := gr.2.1
    have hn1 : 1 ≤ n := gr.2.2.1
    have hn64 : n ≤ 64 := gr.2.2.2.1
    have he4 := gr.2.2.2.2.1
    obtain ⟨⟨dx, eT, vs, hg, _, _, rg, _, _⟩, _⟩ := id gr
    obtain ⟨kvs, hkd⟩ := gr.kdo
    obtain ⟨D0, U0, hI0⟩ := exists_inv good hn1 hn64 he4
    obtain ⟨wt, w1, w2, w3⟩ := weights hI0 hp
    have st0 : StX m C g kd n es (fun x => x = c ∨ x = s0) H R H R := (StX.refl gr).wide (fun x z => z.elim) fun x z => by
      rcases z with rfl | rfl
      · exact ⟨nRc, ne_of hc hkd dict_ne.1, by rw [hc]; exact fun z => nomatch z⟩
      · exact ⟨nRs, ne_of hs hkd dict_ne.1, by rw [hs]; exact fun z => nomatch z⟩
    refine ⟨fun mm σ' H' => ∃ (y4 y5 y6 y7 y8 y9 : Option V) (R' : Addr → Prop) (f : Nat → Int), σ' = [some (.ref g), some (.ref c), some (.ref s0), some (nV p), y4, y5, y6, y7, y8, y9] ∧ StX m C g kd n es (fun x => x = c ∨ x = s0) H R H' R' ∧ H' c = some (.lst (rowF n fun v => cs v - lapF n es f v)) ∧ H' s0 = some (.lst (rowF n fun v => sc v + f v)) ∧ f p = 0 ∧ (∀ v, v < n → v ≠ p → 0 ≤ cs v - lapF n es f v) ∧ mm = (sumI n fun v => (cs v - lapF n es f v) * wt v).toNat,
      ⟨_, _, _, _, _, _, _, R, fun _ => 0, rfl, st0, ?_, ?_, rfl, ?_, rfl⟩, ?_⟩
    · rw [hc]
      congr 2
      exact rowF_congr fun v hv => by
        have : lapF n es (fun _ => 0) v = 0 := sumI_zero fun u _ => by rw [Int.sub_self, Int.mul_zero]
        rw [this, Int.sub_zero]
    · rw [hs]
      congr 2
      exact rowF_congr fun v hv => (Int.add_zero _).symm
    · intro v hv hne
      have : lapF n es (fun _ => 0) v = 0 := sumI_zero fun u _ => by rw [Int.sub_self, Int.mul_zero]
      rw [this, Int.sub_zero]
      exact h0 v hv hne
    rintro mm σ' H1 ⟨y4, y5, y6, y7, y8, y9, R1, f, rfl, st1, hc1, hs1, fp, f0, em⟩
    refine ⟨_, rfl, iteT ?_⟩
    refine ⟨fun σ' H' => ∃ m', m' < mm ∧ ∃ (y4 y5 y6 y7 y8 y9 : Option V) (R' : Addr → Prop) (f : Nat → Int), σ' = [some (.ref g), some (.ref c), some (.ref s0), some (nV p), y4, y5, y6, y7, y8, y9] ∧ StX m C g kd n es (fun x => x = c ∨ x = s0) H R H' R' ∧ H' c = some (.lst (rowF n fun v => cs v - lapF n es f v)) ∧ H' s0 = some (.lst (rowF n fun v => sc v + f v)) ∧ f p = 0 ∧ (∀ v, v < n → v ≠ p → 0 ≤ cs v - lapF n es f v) ∧ m' = (sumI n fun v => (cs v - lapF n es f v) * wt v).toNat, fun _ _ h => h, ?_⟩
    generalize hcur : (fun v => cs v - lapF n es f v) = cur at hc1
    have hcv : ∀ v, cs v - lapF n es f v = cur v := fun v => congrFun hcur v
    have f0' : ∀ v, v < n → v ≠ p → 0 ≤ cur v := fun v hv hne => by rw [← hcv]; exact f0 v hv hne
    -- heat
    refine ⟨_, rfl, _, rfl, _, rfl, g, kd, c, R1, n, es, cur, p, rfl, st1.gr, hc1, hp, fun H2 R2 L S c2 nL nRL clo least hL => ?_⟩
    have st2 := st1.call c2
    have hc2 := c2.lst st1.gr (fun z => z) hc1
    have hs2 := c2.lst st1.gr (fun z => z) hs1
    have hg2 := st2.but _ _ (ne_of hg hkd ins_dK) (fun z => z.elim (fun z => (st0.own c (.inl rfl)).1 (z ▸ rg)) fun z => (st0.own s0 (.inr rfl)).1 (z ▸ rg)) hg
    refine nx_ ?_
    -- left
    refine ⟨_, rfl, g, C, dx, _, _, rfl, hg2, G.cls, G.n, rfl, n, rfl, by omega, by omega, fun F0 nF => ?_⟩
    refine lc_range (lo := 0) (n := n) (fun i H3 => Same H2 H3 ∧ H3 F0 = some (.lst (((List.range i).filter fun v => !S v).map nV))) ⟨same_upd nF, upd_same⟩ ?_ ?_
    · rintro i H3 hi ⟨s3, hF⟩
      rw [zint0]
      have ef : (List.range (i + 1)).filter (fun v => !S v) = (List.range i).filter (fun v => !S v) ++ if S i = true then [] else [i] := by
        rw [List.range_succ, List.filter_append, List.filter_cons]
        cases S i <;> rfl
      refine ⟨rfl, ?_⟩
      refine ⟨_, rfl, _, rfl, _, _, i, _, rfl, rfl, SqL.of (s3 _ _ hL), atI_nat (heatL_get hi), rfl, _, rfl, ?_⟩
      cases hS : S i with
      | true =>
        have ev : heatV S (heatS n es S) i = .non := if_pos hS
        rw [ev]
        refine iteF ⟨s3, ?_⟩
        rw [ef, hS, if_pos rfl, List.append_nil]
        exact hF
      | false =>
        have ev : heatV S (heatS n es S) i = .int (heatS n es S i) := if_neg (by rw [hS]; exact Bool.false_ne_true)
        rw [ev]
        refine iteT ⟨_, rfl, _, hF, size_lt ?_, same_mut s3 nF, ?_⟩
        · rw [List.length_map]
          have := List.length_filter_le (fun v => !S v) (List.range i)
          rw [List.length_range] at this
          omega
        · rw [upd_same, ef, hS, if_neg Bool.false_ne_true, List.map_append]; rfl
    rintro H3 ⟨s3, hF⟩
    have hF : H3 F0 = some (.lst ((leftL n S).map nV)) := hF
    have st3 := st2.alloc s3
    have hc3 := s3 _ _ hc2
    have hs3 := s3 _ _ hs2
    have hL3 := s3 _ _ hL
    have hg3 := s3 _ _ hg2
    refine nx_ ?_
    -- nothing left
    refine ⟨_, rfl, _, .inl ⟨_, SqL.of hF, rfl⟩, ?_⟩
    cases hl : leftL n S with
    | nil =>
      refine iteT ?_
      have all : ∀ v, v < n → S v = true := fun v hv => by
        cases e : S v with
        | true => rfl
        | false =>
          have := left_mem.mpr ⟨hv, e⟩
          rw [hl] at this
          cases this
      refine q H3 R2 f st3 ?_ hs3 fp ⟨f0, fun T hT v hv => ?_⟩
      · rw [hc3, hcur]
      · rw [hcur] at hT
        exact least T hT v hv (all v hv)
    | cons l0 lr =>
      have hl0 : l0 ∈ leftL n S := by rw [hl]; exact List.mem_cons_self ..
      rw [← hl]
      have ne : (!(!((leftL n S).map nV).isEmpty)) = false := by rw [hl]; rfl
      rw [ne]
      refine iteF ?_
      obtain ⟨h1, h2⟩ := left_mem.mp hl0
      obtain ⟨u0, hu0, hu1, hu2⟩ := hot good hp clo.1 h1 h2
      have unp : ∀ v, S v = false → v ≠ p := fun v h z => by rw [z, clo.1] at h; cases h
      -- times
      refine nx_ ?_
      refine ⟨_, rfl, F0, rfl, ⟨_, SqL.of hF⟩, fun M nM => ?_⟩
      refine lc_list (K := K) (a := F0) (xs := (leftL n S).map nV) (fun i H4 => Same H3 H4 ∧ H4 M = some (.lst (((((leftL n S).take i).filter fun v => decide (0 < heatS n es S v)).map fun v => cur v / heatS n es S v).map V.int))) ⟨same_upd nM, upd_same⟩ (fun i H4 _ p => SqL.of (p.1 _ _ hF)) ?_ ?_
      · rintro i x H4 hx ⟨s4, hM⟩
        rw [List.getElem?_map] at hx
        obtain ⟨u, hu, rfl⟩ := Option.map_eq_some_iff.mp hx
        obtain ⟨hun, hSu⟩ := left_mem.mp (List.mem_of_getElem? hu)
        have hi : i < (leftL n S).length := (List.getElem?_eq_some_iff.mp hu).1
        have ll : (leftL n S).length ≤ n := by
          have := List.length_filter_le (fun v => !S v) (List.range n)
          rwa [List.length_range] at this
        have gu : (heatL n S (heatS n es S))[u]? = some (.int (heatS n es S u)) := by
          rw [heatL_get hun]
          unfold heatV
          rw [hSu]; rfl
        have ef : ((leftL n S).take (i + 1)).filter (fun v => decide (0 < heatS n es S v)) = ((leftL n S).take i).filter (fun v => decide (0 < heatS n es S v)) ++ if 0 < heatS n es S u then [u] else [] := by
          rw [List.take_add_one, hu, List.filter_append]
          congr 1
          show List.filter _ [u] = _
          rw [List.filter_cons]
          by_cases e : 0 < heatS n es S u
          · rw [if_pos (decide_eq_true e), if_pos e]; rfl
          · rw [if_neg (by rw [decide_eq_false e]; exact Bool.false_ne_true), if_neg e]; rfl
        have hb : heatS n es S u ≤ 51200 := by
          have h1 := heat_mono (n := n) (es := es) (S := S) (T := fun _ => true) (v := u) fun _ _ _ => rfl
          have h2 := val_abs (es := es) hn64 he4 u
          have h3 : heatS n es (fun _ => true) u = sumI n fun w => mI es u w := sumI_congr fun w _ => if_pos rfl
          rw [h3] at h1
          omega
        refine ⟨rfl, ?_⟩
        refine ⟨_, rfl, _, rfl, _, _, u, _, rfl, rfl, SqL.of (s4 _ _ hL3), atI_nat gu, _, _, rfl, rfl, _, rfl, ifD (fun pos => ?_) (fun npos => ?_)⟩
        · refine ⟨_, rfl, _, rfl, _, _, u, _, rfl, rfl, SqL.of (s4 _ _ hc3), atI_nat (rowF_get hun), ?_⟩
          refine ⟨_, rfl, _, rfl, _, _, u, _, rfl, rfl, SqL.of (s4 _ _ hL3), atI_nat gu, _, _, rfl, rfl, ⟨pos, by omega⟩, ?_⟩
          refine ⟨_, hM, size_lt ?_, same_mut s4 nM, ?_⟩
          · rw [List.length_map, List.length_map]
            have := List.length_filter_le (fun v => decide (0 < heatS n es S v)) ((leftL n S).take i)
            rw [List.length_take] at this
            omega
          · rw [upd_same, ef, if_pos pos, List.map_append, List.map_append]; rfl
        · refine ⟨s4, ?_⟩
          rw [ef, if_neg npos, List.append_nil]
          exact hM
      rintro H4 ⟨s4, hM⟩
      rw [List.length_map, List.take_length] at hM
      refine ⟨M, _, rfl, SqL.of hM, ?_, fun t ht htm => ?_⟩
      · rw [List.length_map]
        exact List.length_pos_of_mem (List.mem_filter.mpr ⟨left_mem.mpr ⟨hu0, hu1⟩, decide_eq_true (by omega)⟩)
      have st4 := st3.alloc s4
      have hc4 := s4 _ _ hc3
      have hs4 := s4 _ _ hs3
      have hL4 := s4 _ _ hL3
      have hF4 := s4 _ _ hF
      have nLX : ¬ (L = c ∨ L = s0) := fun z => by
        rcases z with z | z
        · rw [z, hc1] at nL; cases nL
        · rw [z, hs1] at nL; cases nL
      have nFX : ¬ (F0 = c ∨ F0 = s0) := fun z => by
        rcases z with z | z
        · rw [z, hc2] at nF; cases nF
        · rw [z, hs2] at nF; cases nF
      have ndl : (leftL n S).Nodup := List.nodup_range.filter _
      have htl : ∀ v, v < n → S v = false → t * heatS n es S v ≤ cur v := fun v hv hSv => by
        have hh := heat_nonneg (n := n) (es := es) (S := S) (v := v)
        have hle := clo.2 v hv hSv
        rcases Int.lt_or_le 0 (heatS n es S v) with z | z
        · have h1 := htm _ (List.mem_map.mpr ⟨v, List.mem_filter.mpr ⟨left_mem.mpr ⟨hv, hSv⟩, decide_eq_true z⟩, rfl⟩)
          have h2 := Int.mul_le_mul_of_nonneg_right h1 hh
          have h3 := Int.ediv_mul_le (cur v) (show heatS n es S v ≠ 0 by omega)
          omega
        · have : heatS n es S v = 0 := by omega
          rw [this, Int.mul_zero]
          omega
      have ht1 : 1 ≤ t := by
        obtain ⟨v, hv, rfl⟩ := List.mem_map.mp ht
        obtain ⟨a, b⟩ := List.mem_filter.mp hv
        obtain ⟨a1, a2⟩ := left_mem.mp a
        have b := of_decide_eq_true b
        have hle := clo.2 v a1 a2
        exact (Int.le_ediv_iff_mul_le b).mpr (by omega)
      have gr4 := st4.gr
      refine nx_ ?_
      -- they fire
      refine ⟨_, rfl, F0, rfl, ⟨_, SqL.of hF4⟩, ?_⟩
      refine for_list (K := K) (a := F0) (xs := (leftL n S).map nV) (fun j σ H' => ∃ (y7 y8 y9 : Option V) (R' : Addr → Prop), σ = [some (.ref g), some (.ref c), some (.ref s0), some (nV p), some (.ref L), some (.ref F0), some (.int t), y7, y8, y9] ∧ StX m C g kd n es (fun x => x = c ∨ x = s0) H4 R2 H' R' ∧ H' c = some (.lst (rowF n (fireC n es S t cur ((leftL n S).take j)))) ∧ H' s0 = some (.lst (rowF n fun v => sc v + f v + if v ∈ (leftL n S).take j then t else 0))) ?_ ?_ ?_ ?_
      · refine ⟨_, _, _, R2, rfl, st4.here, ?_, ?_⟩
        · rw [hc4]
          congr 2
          refine rowF_congr fun v _ => ?_
          unfold fireC
          split
          · show cur v = cur v + t * 0
            rw [Int.mul_zero, Int.add_zero]
          · rfl
        · rw [hs4]
          congr 2
          exact rowF_congr fun v _ => (Int.add_zero _).symm
      · rintro j σ H' _ ⟨_, _, _, _, _, sx, _⟩
        exact SqL.of (sx.lst gr4 nFX hF4)
      · rintro j x σ H' hx ⟨y7, y8, y9, R5, rfl, sx, hc', hs'⟩
        rw [List.getElem?_map] at hx
        obtain ⟨u, hu, rfl⟩ := Option.map_eq_some_iff.mp hx
        obtain ⟨hun, hSu⟩ := left_mem.mp (List.mem_of_getElem? hu)
        have hj : j < (leftL n S).length := (List.getElem?_eq_some_iff.mp hu).1
        have et : (leftL n S).take (j + 1) = (leftL n S).take j ++ [u] := by rw [List.take_add_one, hu]; rfl
        have nut : u ∉ (leftL n S).take j := fun z => by
          have h1 : ((leftL n S).take (j + 1)).Nodup := List.Sublist.nodup (List.take_sublist _ _) ndl
          rw [et] at h1
          exact (List.nodup_append.mp h1).2.2 u z u (List.mem_singleton.mpr rfl) rfl
        have hL' := sx.lst gr4 nLX hL4
        have gu : (heatL n S (heatS n es S))[u]? = some (.int (heatS n es S u)) := by
          rw [heatL_get hun]
          unfold heatV
          rw [hSu]; rfl
        have hb : heatS n es S u ≤ 51200 := by
          have h1 := heat_mono (n := n) (es := es) (S := S) (T := fun _ => true) (v := u) fun _ _ _ => rfl
          have h2 := val_abs (es := es) hn64 he4 u
          have h3 : heatS n es (fun _ => true) u = sumI n fun w => mI es u w := sumI_congr fun w _ => if_pos rfl
          rw [h3] at h1
          omega
        have hb0 := heat_nonneg (n := n) (es := es) (S := S) (v := u)
        -- script
        refine ⟨_, rfl, _, rfl, _, _, u, _, rfl, rfl, SqL.of hs', atI_nat (rowF_get hun), _, rfl, _, _, rfl, rfl, ?_⟩
        refine ⟨_, rfl, _, rfl, s0, _, _, u, rfl, rfl, hs', Evl.ixN_nat (by rw [rowF_len]; exact hun), ?_⟩
        rw [rowF_set]
        have sx5 : StX m C g kd n es (fun x => x = c ∨ x = s0) H4 R2 (upd H' s0 (.lst (rowF n fun v => if v = u then (sc u + f u + if u ∈ (leftL n S).take j then t else 0) + t else sc v + f v + if v ∈ (leftL n S).take j then t else 0))) R5 := sx.set (.inr rfl)
        have hs5 : (upd H' s0 (.lst (rowF n fun v => if v = u then (sc u + f u + if u ∈ (leftL n S).take j then t else 0) + t else sc v + f v + if v ∈ (leftL n S).take j then t else 0))) s0 = some (.lst (rowF n fun v => sc v + f v + if v ∈ (leftL n S).take (j + 1) then t else 0)) := by
          rw [upd_same]
          congr 2
          refine rowF_congr fun v _ => ?_
          rw [et]
          by_cases e : v = u
          · rw [if_pos e, e, if_neg nut, if_pos (List.mem_append.mpr (.inr (List.mem_singleton.mpr rfl)))]; omega
          · rw [if_neg e]
            congr 1
            by_cases d : v ∈ (leftL n S).take j
            · rw [if_pos d, if_pos (List.mem_append.mpr (.inl d))]
            · rw [if_neg d, if_neg (fun z => (List.mem_append.mp z).elim d fun z => e (List.mem_singleton.mp z))]
        have hc5 : (upd H' s0 (.lst (rowF n fun v => if v = u then (sc u + f u + if u ∈ (leftL n S).take j then t else 0) + t else sc v + f v + if v ∈ (leftL n S).take j then t else 0))) c = some (.lst (rowF n (fireC n es S t cur ((leftL n S).take j)))) := by rw [upd_ne ncs]; exact hc'
        generalize upd H' s0 (.lst (rowF n fun v => if v = u then (sc u + f u + if u ∈ (leftL n S).take j then t else 0) + t else sc v + f v + if v ∈ (leftL n S).take j then t else 0)) = H5 at sx5 hs5 hc5 ⊢
        have hL5 := sx5.lst gr4 nLX hL4
        refine nx_ ?_
        -- chips
        refine ⟨_, rfl, _, rfl, _, _, u, _, rfl, rfl, SqL.of hc5, atI_nat (rowF_get hun), _, rfl, _, rfl, _, rfl, _, _, u, _, rfl, rfl, SqL.of hL5, atI_nat gu, _, _, rfl, rfl, .inr ⟨by omega, by omega⟩, _, _, rfl, rfl, ?_⟩
        refine ⟨_, rfl, _, rfl, c, _, _, u, rfl, rfl, hc5, Evl.ixN_nat (by rw [rowF_len]; exact hun), ?_⟩
        rw [rowF_set]
        have sx6 : StX m C g kd n es (fun x => x = c ∨ x = s0) H4 R2 (upd H5 c (.lst (rowF n fun v => if v = u then fireC n es S t cur ((leftL n S).take j) u - t * heatS n es S u else fireC n es S t cur ((leftL n S).take j) v))) R5 := sx5.set (.inl rfl)
        have hc6 : (upd H5 c (.lst (rowF n fun v => if v = u then fireC n es S t cur ((leftL n S).take j) u - t * heatS n es S u else fireC n es S t cur ((leftL n S).take j) v))) c = some (.lst (rowF n fun v => if S v = true then cur v + t * (((leftL n S).take j).map fun u => mI es v u).sum else if v ∈ (leftL n S).take (j + 1) then cur v - t * heatS n es S v else cur v)) := by
          rw [upd_same]
          congr 2
          refine rowF_congr fun v _ => ?_
          unfold fireC
          rw [et]
          by_cases e : v = u
          · rw [if_pos e, e, hSu, if_neg Bool.false_ne_true, if_neg Bool.false_ne_true, if_neg nut, if_pos (List.mem_append.mpr (.inr (List.mem_singleton.mpr rfl)))]
          · rw [if_neg e]
            by_cases d : v ∈ (leftL n S).take j
            · rw [if_pos d, if_pos (show v ∈ (leftL n S).take j ++ [u] from List.mem_append.mpr (.inl d))]
            · rw [if_neg d, if_neg (show ¬ v ∈ (leftL n S).take j ++ [u] from fun z => (List.mem_append.mp z).elim d fun z => e (List.mem_singleton.mp z))]
        have hs6 : (upd H5 c (.lst (rowF n fun v => if v = u then fireC n es S t cur ((leftL n S).take j) u - t * heatS n es S u else fireC n es S t cur ((leftL n S).take j) v))) s0 = some (.lst (rowF n fun v => sc v + f v + if v ∈ (leftL n S).take (j + 1) then t else 0)) := by rw [upd_ne ncs.symm]; exact hs5
        generalize upd H5 c (.lst (rowF n fun v => if v = u then fireC n es S t cur ((leftL n S).take j) u - t * heatS n es S u else fireC n es S t cur ((leftL n S).take j) v)) = H6 at sx6 hc6 hs6 ⊢
        refine nx_ ?_
        -- the others
        refine ⟨_, rfl, g, kd, R5, n, es, rfl, sx6.gr, fun H7 R7 v b7 gr7 up7 fr7 bes => ?_⟩
        have sx7 := sx6.call (stp_of b7 gr7 up7 fr7)
        obtain ⟨LB, ls, rfl, rLB, hLB, lls, hls⟩ := bes
        have hc7 := b7 _ _ (sx6.own c (.inl rfl)).2.1 hc6
        have hs7 := b7 _ _ (sx6.own s0 (.inr rfl)).2.1 hs6
        have ip : u < ls.length := by omega
        obtain ⟨ra, ws, l, k1, rt, k2, k3⟩ := hls u _ (List.getElem?_eq_getElem ip)
        have nrX : ∀ y, R7 y → ¬ (y = c ∨ y = s0) := fun y r z => (sx7.own y z).1 r
        refine ⟨_, rfl, LB, _, u, .ref ls[u], rfl, rfl, SqL.of hLB, atI_nat (rows_get ip), ls[u], rfl, ⟨_, SqL.of k1⟩, ?_⟩
        refine for_list (K := K) (a := ls[u]) (xs := ws) (fun k σ H' => ∃ (y8 y9 : Option V), σ = [some (.ref g), some (.ref c), some (.ref s0), some (nV p), some (.ref L), some (.ref F0), some (.int t), some (nV u), y8, y9] ∧ StX m C g kd n es (fun x => x = c ∨ x = s0) H4 R2 H' R7 ∧ But (fun x => x = c ∨ x = s0) H7 H' ∧ H' c = some (.lst (rowF n fun v => if S v = true then cur v + t * (((leftL n S).take j).map fun u => mI es v u).sum + t * lineH (l.take k) v else if v ∈ (leftL n S).take (j + 1) then cur v - t * heatS n es S v else cur v)) ∧ H' s0 = some (.lst (rowF n fun v => sc v + f v + if v ∈ (leftL n S).take (j + 1) then t else 0))) ?_ ?_ ?_ ?_
        · refine ⟨_, _, rfl, sx7, But.refl, ?_, hs7⟩
          rw [hc7]
          congr 2
          refine rowF_congr fun v _ => ?_
          show _ = if S v = true then _ + t * 0 else _
          rw [Int.mul_zero, Int.add_zero]
        · rintro k σ H' _ ⟨_, _, _, _, bt, _⟩
          exact SqL.of (bt _ _ (nrX _ ra) k1)
        · rintro k y σ H' hy ⟨y8, y9, rfl, sy, bt, hc', hs'⟩
          have hk : k < l.length := by rw [← k2.len]; exact (List.getElem?_eq_some_iff.mp hy).1
          obtain ⟨tt, e1, e2⟩ := k2.get hk
          rw [hy] at e1
          obtain rfl := Option.some.inj e1
          have htt := bt _ _ (nrX _ (rt tt (List.mem_of_getElem? hy))) e2
          have hm : l[k].2 = mult es u l[k].1 ∧ 0 < mult es u l[k].1 := (k3.2 l[k].1 l[k].2).mp (List.getElem_mem hk)
          have ho : l[k].1 < n := mult_pos edg hm.2
          have hml : l[k].2 ≤ 800 := by rw [hm.1]; have := mult_le (es := es) (i := u) (u := l[k].1); omega
          have hke : l[k]? = some l[k] := List.getElem?_eq_getElem hk
          generalize l[k] = e at htt ho hke hml
          obtain ⟨o, cc⟩ := e
          have hml : cc ≤ 800 := hml
          have ek : ∀ v, lineH (l.take (k + 1)) v = lineH (l.take k) v + if o = v then (cc : Int) else 0 := fun v => by
            rw [List.take_add_one, hke]
            exact lineH_snoc
          have hL' := sy.lst gr4 nLX hL4
          refine ⟨tt, _, rfl, SqT.of htt, rfl, _, _, rfl, _, _, rfl, rfl, ?_⟩
          refine ⟨_, rfl, _, rfl, _, _, o, _, rfl, rfl, SqL.of hL', atI_nat (heatL_get ho), rfl, _, rfl, ?_⟩
          cases hS : S o with
          | true =>
            have ev : heatV S (heatS n es S) o = .non := if_pos hS
            rw [ev]
            refine iteT ?_
            refine ⟨_, rfl, _, rfl, _, _, o, _, rfl, rfl, SqL.of hc', atI_nat (rowF_get ho), _, rfl, _, rfl, _, _, rfl, rfl, .inr ⟨by show -(2 ^ 64) < (cc : Int); omega, by show (cc : Int) < 2 ^ 64; omega⟩, _, _, rfl, rfl, ?_⟩
            refine ⟨_, rfl, _, rfl, c, _, _, o, rfl, rfl, hc', Evl.ixN_nat (by rw [rowF_len]; exact ho), ?_⟩
            rw [rowF_set]
            refine ⟨_, _, rfl, sy.set (.inl rfl), bt.trans (But.mut (.inl rfl)), ?_, by rw [upd_ne ncs.symm]; exact hs'⟩
            rw [upd_same]
            congr 2
            refine rowF_congr fun v _ => ?_
            rw [ek]
            by_cases d : v = o
            · subst d
              rw [if_pos rfl, if_pos hS, if_pos hS, if_pos rfl, Int.mul_add]
              show cur v + _ + _ + t * (cc : Int) = _
              omega
            · rw [if_neg d, if_neg (fun z : o = v => d z.symm), Int.add_zero]
          | false =>
            have ev : heatV S (heatS n es S) o = .int (heatS n es S o) := if_neg (by rw [hS]; exact Bool.false_ne_true)
            rw [ev]
            refine iteF ⟨_, _, rfl, sy, bt, ?_, hs'⟩
            rw [hc']
            congr 2
            refine rowF_congr fun v _ => ?_
            rw [ek]
            by_cases d : o = v
            · subst d
              rw [hS, if_neg Bool.false_ne_true, if_neg Bool.false_ne_true]
            · rw [if_neg d, Int.add_zero]
        · rintro σ H8 ⟨y8, y9, rfl, sy, bt, hc8, hs8⟩
          rw [k2.len, List.take_length] at hc8
          refine ⟨_, _, _, R7, rfl, sy, ?_, hs8⟩
          rw [hc8]
          congr 2
          refine rowF_congr fun v hv => ?_
          rw [lineH_end k3 (fun u hu => mult_pos edg hu) hv]
          unfold fireC
          by_cases d : S v = true
          · rw [if_pos d, if_pos d, et, List.map_append, List.sum_append, Int.mul_add]
            show _ = _ + (_ + t * (mI es v u + 0))
            rw [Int.add_zero]; omega
          · rw [if_neg d, if_neg d]
      · rintro σ H5 ⟨y7, y8, y9, R5, rfl, sx, hc5, hs5⟩
        rw [List.length_map, List.take_length] at hc5 hs5
        have hS0 : ∀ v, v < n → (if v ∈ leftL n S then t else 0) = if S v = true then 0 else t := fun v hv => by
          cases e : S v with
          | true => rw [if_neg (fun z => by rw [(left_mem.mp z).2] at e; cases e), if_pos rfl]
          | false => rw [if_pos (left_mem.mpr ⟨hv, e⟩), if_neg Bool.false_ne_true]
        have ecs : ∀ v, v < n → cs v - lapF n es (fun v => f v + if S v = true then 0 else t) v = cur v - lapF n es (fun u => if S u = true then 0 else t) v := fun v hv => by
          rw [lapF_add, ← hcv]; omega
        refine ⟨_, ?_, _, _, _, _, _, _, R5, fun v => f v + if S v = true then 0 else t, rfl, st4.trans sx, ?_, ?_, ?_, ?_, rfl⟩
        · rw [em]
          have hl := lighter (n := n) (es := es) (wt := wt) (cs := cur) (s := fun u => if S u = true then 0 else t) (q := p) w3 (fun v hv => by
            show 0 ≤ if S v = true then 0 else t
            split
            · exact Int.le_refl 0
            · omega) (if_pos clo.1) hp ⟨u0, hu0, by
              show 1 ≤ if S u0 = true then 0 else t
              rw [hu1, if_neg Bool.false_ne_true]; exact ht1⟩
          have e1 : (sumI n fun v => (cs v - lapF n es (fun v => f v + if S v = true then 0 else t) v) * wt v) = sumI n fun v => (cur v - lapF n es (fun u => if S u = true then 0 else t) v) * wt v := sumI_congr fun v hv => by rw [ecs v hv]
          have e2 : (sumI n fun v => (cs v - lapF n es f v) * wt v) = sumI n fun v => cur v * wt v := sumI_congr fun v hv => by rw [hcv]
          rw [e1, e2]
          have e3 : 0 ≤ sumI n fun v => (cur v - lapF n es (fun u => if S u = true then 0 else t) v) * wt v := sumI_nonneg fun v hv => by
            by_cases d : v = p
            · rw [d, w1, Int.mul_zero]; exact Int.le_refl 0
            · refine Int.mul_nonneg ?_ (w2 v hv)
              rw [lapF_out]
              by_cases e : S v = true
              · rw [if_pos e]
                have h1 := f0' v hv d
                have h2 : 0 ≤ sumI n fun u => if S u = true then 0 else mI es v u := sumI_nonneg fun u _ => by
                  split
                  · exact Int.le_refl 0
                  · exact mI_nonneg
                have h3 := Int.mul_nonneg (show 0 ≤ t by omega) h2
                omega
              · rw [if_neg e]
                have := htl v hv (by cases z : S v with | true => exact absurd z e | false => rfl)
                omega
          omega
        · rw [hc5]
          congr 2
          refine rowF_congr fun v hv => ?_
          rw [fireC_end hv, ecs v hv]
        · rw [hs5]
          congr 2
          refine rowF_congr fun v hv => ?_
          rw [hS0 v hv]
          show sc v + f v + (if S v = true then 0 else t) = sc v + (f v + if S v = true then 0 else t)
          omega
        · show f p + (if S p = true then 0 else t) = 0
          rw [fp, if_pos clo.1]; rfl
        · intro v hv d
          rw [ecs v hv, lapF_out]
          by_cases e : S v = true
          · rw [if_pos e]
            have h1 := f0' v hv d
            have h2 : 0 ≤ sumI n fun u => if S u = true then 0 else mI es v u := sumI_nonneg fun u _ => by
              split
              · exact Int.le_refl 0
              · exact mI_nonneg
            have h3 := Int.mul_nonneg (show 0 ≤ t by omega) h2
            omega
          · rw [if_neg e]
            have := htl v hv (by cases z : S v with | true => exact absurd z e | false => rfl)
            omega
def spLow (m : Memo) (C : Addr) : Sp := fun vs H Q _ => ∃ (g kd c : Addr) (R : Addr → Prop) (n : Nat) (es : List Pr) (cs : Nat → Int) (p : Nat), vs = [.ref g, .ref c, nV p] ∧ Gr m H C g kd R n es ∧ H c = some (.lst (rowF n cs)) ∧ p < n ∧ (∀ v, v < n → (cs v).natAbs < 2 ^ bigE) ∧
  ∀ (H' : Hp) (R' : Addr → Prop) (T S L : Addr) (s : Nat → Int), Stp m C g kd n es H R H' R' → H S = none → H L = none → S ≠ L → ¬ R' S → ¬ R' L → H' T = some (.tup [.ref L, .ref S]) → H' S = some (.lst (rowF n s)) → H' L = some (.lst (rowF n fun v => cs v - lapF n es s v)) → s p = 0 → Low n es (fun v => cs v - lapF n es s v) p → Q (.ref T) H'
theorem ok_led_down {m : Memo} (D : DefAt K mg "led_down" "led_down" s_led_down) (B : Bt mg) (h_cleared_up : Has P w K mg base CX0 5 "cleared_up" p_cleared_up (spClr m C)) (h_settle : Has P w K mg base CX0 3 "settle" p_settle (spSet m C)) : Has P w K mg base CX0 6 "led_down" p_led_down (spLow m C) := by
  refine has_of D sc_led_down (fun _ _ _ _ _ _ us hl => match us, hl with | [_, _, _], _ => rfl) (fun vs H Q E h => ?_) (fun f cdv A outer s H vs Q E hr h => ?_)
  · obtain ⟨g, kd, c, R, n, es, cs, p, rfl, _⟩ := h
    rfl
  · obtain ⟨g, kd, c, R, n, es, cs, p, rfl, gr, hc, hp, hb, q⟩ := h
    refine ⟨_, (pss_cons (ps_asg (pe_h h_cleared_up hr pass0 (pa_cons (pv 0) (pa_cons (pv 1) (pa_cons (pv 2) pa_nil)))) (pgT (K := K) (n := 2) rfl rfl (pgs_cons (pg_name (i := 3) sc_led_down.nd rfl (.inl rfl)) (pgs_cons (pg_name (i := 4) sc_led_down.nd rfl (.inl rfl)) pgs_nil))))
  (pss_cons (ps_expr (pe_h h_settle hr pass0 (pa_cons (pv 0) (pa_cons (pv 4) (pa_cons (pv 3) (pa_cons (pv 2) pa_nil))))))
  (pss_one (ps_ret (pe_tup (pa_cons (pv 4) (pa_cons (pv 3) pa_nil))))))), ?_⟩
    refine ⟨_, rfl, _, rfl, _, rfl, g, kd, c, R, n, es, cs, p, rfl, gr, hc, hp, hb, fun H1 R1 T1 S L s1 c1 nS nL nSL nRS nRL hT1 hS hL sp h0 => ?_⟩
    refine ⟨T1, _, rfl, SqT.of hT1, rfl, _, _, rfl, _, _, rfl, rfl, ?_⟩
    refine ⟨_, rfl, _, rfl, _, rfl, _, rfl, g, kd, L, S, R1, n, es, _, s1, p, rfl, c1.gr, hL, hS, nSL.symm, nRL, nRS, hp, h0, fun H2 R2 f st2 hL2 hS2 fp low => ?_⟩
    have e : ∀ v, cs v - lapF n es (fun v => s1 v + f v) v = cs v - lapF n es s1 v - lapF n es f v := fun v => by rw [lapF_add]; omega
    have nX : ∀ x, x = L ∨ x = S → H x = none := fun x z => z.elim (fun z => z ▸ nL) fun z => z ▸ nS
    have st : Stp m C g kd n es H R H2 R2 := by
      have c1' : StX m C g kd n es (fun x => x = L ∨ x = S) H R H1 R1 := c1.wide (fun x z => z.elim) fun x z => by
        rcases z with rfl | rfl
        · exact ⟨nRL, ne_of hL c1.gr.kdo.choose_spec dict_ne.1, by rw [hL]; exact fun z => nomatch z⟩
        · exact ⟨nRS, ne_of hS c1.gr.kdo.choose_spec dict_ne.1, by rw [hS]; exact fun z => nomatch z⟩
      exact (c1'.trans st2).drop nX
    refine ⟨_, rfl, _, rfl, by show 2 ≤ sizeLine; decide, fun T nT => ?_⟩
    have sT := same_upd (o := HO.tup [.ref L, .ref S]) nT
    refine q _ R2 T S L (fun v => s1 v + f v) (st.alloc sT) nS nL nSL (st2.own S (.inr rfl)).1 (st2.own L (.inl rfl)).1 upd_same (sT _ _ hS2) ?_ ?_ ?_
    · rw [sT _ _ hL2]
      congr 2
      exact rowF_congr fun v _ => (e v).symm
    · show s1 p + f p = 0
      rw [sp, fp]; rfl
    · have : (fun v => cs v - lapF n es (fun v => s1 v + f v) v) = fun v => cs v - lapF n es s1 v - lapF n es f v := funext e
      rw [this]; exact low
end
end G3

set_option Elab.async false
set_option linter.all false
set_option maxRecDepth 100000
set_option maxHeartbeats 2000000
namespace G3
open PySem PySem.Spec PyProof.Rows L2
/-! ## a row of numbers is told, or refused -/
def isN : PyData → Bool
  | .int _ => true
  | _ => false
/-- what a row is good for: n whole numbers, or the first wrong place, or nothing -/
inductive Rw (K : PySem.W.Frag) (H : Hp) (v : V) (n : Nat) : V → List Int → Prop
  | good {a : Addr} {ns : List Int} (e : v = .ref a) (h : SqL K H a (ns.map V.int) ∨ SqT K H a (ns.map V.int)) (hl : ns.length = n) : Rw K H v n (.bl true) ns
  | kind {d : PyData} (h : TyX K H v (.type (tyN d))) (hd : isSeqD d = false) : Rw K H v n .non []
  | long {a : Addr} {xs : List V} (e : v = .ref a) (h : SqL K H a xs ∨ SqT K H a xs) (hl : xs.length ≠ n) : Rw K H v n .non []
  | bad {a : Addr} {xs : List V} {ds : List PyData} {k : Nat} (e : v = .ref a) (h : SqL K H a xs ∨ SqT K H a xs) (hd : DpAll K H xs ds) (hl : ds.length = n) (hk : k < n) (h1 : ∀ j d, j < k → ds[j]? = some d → isN d = true) (h2 : ∀ d, ds[k]? = some d → isN d = false) : Rw K H v n (nV k) []
theorem Rw.same {K : PySem.W.Frag} {H H' : Hp} {v r : V} {n : Nat} {ns : List Int} (e : Same H H') (h : Rw K H v n r ns) : Rw K H' v n r ns := by
  cases h with
  | good e1 h hl => exact .good e1 (h.imp e.seq (Same.seqT e)) hl
  | kind h hd => exact .kind (tyx_same e h) hd
  | long e1 h hl => exact .long e1 (h.imp e.seq (Same.seqT e)) hl
  | bad e1 h hd hl hk h1 h2 => exact .bad e1 (h.imp e.seq (Same.seqT e)) (DpAll.same e hd) hl hk h1 h2
theorem rw_cases {K : PySem.W.Frag} {H : Hp} {v r : V} {n : Nat} {ns : List Int} (hv : Rw K H v n r ns) :
    (∃ (a : Addr) (xs : List V) (ds : List PyData), v = .ref a ∧ (SqL K H a xs ∨ SqT K H a xs) ∧ DpAll K H xs ds ∧ ds.length = n ∧
      (∀ k : Nat, k < n → (∀ (j : Nat) (d : PyData), j < k → ds[j]? = some d → isN d = true) → (∀ d : PyData, ds[k]? = some d → isN d = false) → r = nV k) ∧ ((∀ (j : Nat) (d : PyData), ds[j]? = some d → isN d = true) → r = .bl true ∧ xs = ns.map V.int)) ∨
    (r = .non ∧ ∃ d, TyX K H v (.type (tyN d)) ∧ isSeqD d = false) ∨ (r = .non ∧ ∃ (a : Addr) (xs : List V), v = .ref a ∧ (SqL K H a xs ∨ SqT K H a xs) ∧ xs.length ≠ n) := by
  cases hv with
  | @good a ns e h hl =>
    refine .inl ⟨a, _, ns.map PyData.int, e, h, dpAll_ints ns, by rw [List.length_map, hl], fun k hk h1 h2 => ?_, fun _ => ⟨rfl, rfl⟩⟩
    have : k < ns.length := by omega
    have := h2 (.int ns[k]) (by rw [List.getElem?_map, List.getElem?_eq_getElem this]; rfl)
    cases this
  | @bad a xs ds k e h hd hl hk h1 h2 =>
    refine .inl ⟨a, xs, ds, e, h, hd, hl, fun k' hk' h1' h2' => ?_, fun hall => ?_⟩
    · have hk2 : k < ds.length := by omega
      have hk3 : k' < ds.length := by omega
      by_cases c : k < k'
      · have a1 := h1' k _ c (List.getElem?_eq_getElem hk2)
        rw [h2 _ (List.getElem?_eq_getElem hk2)] at a1; cases a1
      · by_cases c2 : k' < k
        · have a1 := h1 k' _ c2 (List.getElem?_eq_getElem hk3)
          rw [h2' _ (List.getElem?_eq_getElem hk3)] at a1; cases a1
        · have : k = k' := by omega
          rw [this]
    · have hk2 : k < ds.length := by omega
      have a1 := hall k _ (List.getElem?_eq_getElem hk2)
      rw [h2 _ (List.getElem?_eq_getElem hk2)] at a1; cases a1
  | @kind d h hd => exact .inr (.inl ⟨rfl, d, h, hd⟩)
  | @long a xs e h hl => exact .inr (.inr ⟨rfl, a, xs, e, h, hl⟩)
theorem isI_N {K : PySem.W.Frag} {H : Hp} {x : V} {d : PyData} (h : Dp K H x d) : isI x = isN d := by cases h <;> rfl
theorem row_ty {K : PySem.W.Frag} {H : Hp} {a : Addr} {xs : List V} (h : SqL K H a xs ∨ SqT K H a xs) : ∃ d, TyX K H (.ref a) (.type (tyN d)) ∧ isSeqD d = true := by
  rcases h with h | h
  · exact ⟨.list [], ty_l h, rfl⟩
  · exact ⟨.tuple [], ty_t h, rfl⟩
theorem row_len {K : PySem.W.Frag} {H : Hp} {a : Addr} {xs : List V} (h : SqL K H a xs ∨ SqT K H a xs) : LenV K (.ref a) H xs.length := h.imp (fun h => ⟨_, h, rfl⟩) fun h => ⟨_, h, rfl⟩
section
variable {P : Program} {w : World} {K : PySem.W.Frag} {mg : Str → Option Value} {base : Heap} {C : Addr}
abbrev n_told_sum : List Str := ["graph", "chips", "number", "many"]
abbrev p_told_sum : List Str := ["graph", "chips"]
theorem sc_told_sum : FnScope n_told_sum p_told_sum (defScope s_told_sum) := ⟨rfl, rfl, rfl, by decide +kernel, rfl, by decide +kernel, by decide +kernel⟩
/-- told, or an error of the class CB with its number -/
def spTold (m : Memo) (K : PySem.W.Frag) (C CB : Addr) : Sp := fun vs H Q E => ∃ (g kd : Addr) (R : Addr → Prop) (n : Nat) (es : List Pr) (v r : V) (ns : List Int), vs = [.ref g, v] ∧ Gr m H C g kd R n es ∧ Rw K H v n r ns ∧
  ∀ (H' : Hp) (l : Addr), Same H H' → H l = none → (r = .bl true → H' l = some (.lst (ns.map V.int)) → Q (.ref l) H') ∧ (r ≠ .bl true → H' l = some (.xd [("number", r)]) → E (.ref CB) (some l) H')
theorem ok_told_sum {m : Memo} {CB fI : Addr} (D : DefAt K mg "told_sum" "told_sum" s_told_sum) (B : Bt mg) (G : GraphC K C) (T : SupX.SupTxt P K mg "BadSum" CB fI) (h_is_whole_sums : Has P w K mg base CX0 1 "is_whole_sums" p_is_whole (spIsI K)) :
    Has P w K mg base (L2.CX P w) 2 "told_sum" p_told_sum (spTold m K C CB) := by
  refine has_ofX D sc_told_sum (fun _ _ _ _ _ _ us hl => match us, hl with | [_, _], _ => rfl) (fun vs H Q E h => ?_) (fun f cdv A outer s H vs Q E hr h => ?_)
  · obtain ⟨g, kd, R, n, es, v, r, ns, rfl, _⟩ := h
    rfl
  · obtain ⟨g, kd, R, n, es, v, r, ns, rfl, gr, hv, q⟩ := h
    have tk : Takes (cxOf (L2.CX P w) P w K mg base n_told_sum "told_sum" (defScope s_told_sum) f cdv A outer s H E) (fun cls d _ H => E cls d H) := takes_of rfl rfl rfl rfl
    refine ⟨_, (pss_cons (ps_if (PW.pt (pw_or (pt_not (pt_val (pe_callB (isiTK (K := K) rfl) rfl B.isinstance (by decide +kernel) (pa_cons (pv 1) (pa_cons (pe_tup (pa_cons (pe_bltn (v := .ty "tuple") (u := .type "tuple") rfl B.tuple (by decide +kernel) rfl) (pa_cons (pe_bltn (v := .ty "list") (u := .type "list") rfl B.list (by decide +kernel) rfl) pa_nil))) pa_nil))))) (pw_or1 (pt_cmpR op_ne (pe_callB (lenK (K := K) rfl) rfl B.len PySem.boot_len (pa_cons (pv 1) pa_nil)) (fldK (K := K) rfl (pv 0) rfl) (nomark _))))) (pss_one (ps_raiseSup rfl T hr tk (pa_cons pe_non pa_nil))) pss_nil)
  (pss_cons (ps_for PassesOwn.leaving rfl (pi_enumR (K := K) rfl rfl B.enumerate (pa_cons (pv 1) pa_nil)) (pgT (K := K) (n := 2) rfl rfl (pgs_cons (pg_name (i := 2) sc_told_sum.nd rfl (.inl rfl)) (pgs_cons (pg_name (i := 3) sc_told_sum.nd rfl (.inl rfl)) pgs_nil))) (pss_one (ps_if (pt_not (pt_val (pe_h h_is_whole_sums hr pass0 (pa_cons (pv 3) pa_nil)))) (pss_one (ps_raiseSup rfl T hr tk (pa_cons (pv 2) pa_nil))) pss_nil)))
  (pss_one (ps_ret (pe_callTy (listK (K := K) rfl) rfl B.list (by decide +kernel) (pa_cons (pv 1) pa_nil)))))), ?_⟩
    obtain ⟨⟨dx, eT, vs, hg, heT, hvs, _, _, _⟩, good, hn1, hn64, _⟩ := id gr
    refine ⟨_, rfl, by show 2 ≤ sizeLine; decide, fun tp ntp => ?_⟩
    have s1 : Same H (upd H tp (.tup [.ty "tuple", .ty "list"])) := same_upd ntp
    have htp : (upd H tp (.tup [.ty "tuple", .ty "list"])) tp = some (.tup [.ty "tuple", .ty "list"]) := upd_same
    generalize upd H tp (.tup [.ty "tuple", .ty "list"]) = H1 at s1 htp
    have hg1 := s1 _ _ hg
    have hv1 := hv.same s1
    have xx : ∀ (k : V) (H2 : Hp), k = r → k ≠ .bl true → Same H H2 → ∀ d, H2 d = none → E (.ref CB) (some d) (upd H2 d (.xd [("number", k)])) := fun k H2 e ne sm d nd => by
      subst e
      exact (q _ d (sm.trans (same_upd nd)) (sm.free nd)).2 ne upd_same
    rcases rw_cases hv with ⟨a, xs, ds, e, hrow, hd, hl, hbad, hgood⟩ | ⟨rfl, d, h, hd⟩ | ⟨rfl, a, xs, e, h, hl⟩
    · subst e
      have hrow1 := hrow.imp s1.seq (Same.seqT s1)
      obtain ⟨d0, ht, hs⟩ := row_ty hrow1
      have lx := DpAll.len hd
      refine ⟨_, tp, _, _, _, isSeqD d0, rfl, htp, .cons (.ty _) (.cons (.ty _) .nil), ht, kt_tl d0, _, rfl, ?_⟩
      rw [hs]
      refine iteF ⟨_, rfl, _, _, rfl, row_len hrow1, _, rfl, g, C, dx, _, _, rfl, hg1, G.cls, G.n, rfl, rfl, _, rfl, ifN (fun e => absurd (congrArg V.int (by omega)) e) fun _ => ?_⟩
      refine ⟨_, rfl, a, rfl, ?_⟩
      refine for_enR (K := K) (a := a) (xs := xs) (H0 := H) hrow (fun i σ H' => ∃ (y z : Option V), σ = [some (.ref g), some (.ref a), y, z] ∧ Same H H' ∧ ∀ j d, j < i → ds[j]? = some d → isN d = true) ?_ ?_ ?_ ?_
      · exact ⟨_, _, rfl, s1, fun j d h => absurd h (Nat.not_lt_zero _)⟩
      · rintro i σ' H' ⟨_, _, _, sm, _⟩ o ho
        exact sm _ _ ho
      · rintro i x T σ' H' hx ⟨y, z, rfl, sm, hj⟩ nT
        have hi : i < ds.length := by rw [← lx]; exact (List.getElem?_eq_some_iff.mp hx).1
        obtain ⟨x', e1, dd⟩ := DpAll.get hd hi
        rw [hx] at e1
        obtain rfl := Option.some.inj e1
        have sT : Same H' (upd H' T (.tup [.int (i : Nat), x])) := same_upd nT
        refine ⟨T, _, rfl, SqT.of upd_same, rfl, _, _, rfl, _, _, rfl, rfl, ?_⟩
        refine ⟨_, rfl, x, _, rfl, Dp.same (sm.trans sT) dd, _, rfl, ?_⟩
        rw [isI_N dd]
        cases hn : isN ds[i] with
        | true =>
          refine iteF ⟨_, _, rfl, sm.trans sT, fun j d hjl hd' => ?_⟩
          by_cases c : j < i
          · exact hj j d c hd'
          · have : j = i := by omega
            subst this
            rw [List.getElem?_eq_getElem hi] at hd'
            rw [← Option.some.inj hd']; exact hn
        | false =>
          refine iteT ?_
          have hk := hbad i (by omega) hj fun d hd' => by
            rw [List.getElem?_eq_getElem hi] at hd'
            rw [← Option.some.inj hd']; exact hn
          exact ⟨_, rfl, _, rfl, xx _ _ hk.symm (fun z => by cases z) (sm.trans sT)⟩
      · rintro σ' H' ⟨y, z, rfl, sm, hj⟩
        obtain ⟨hr, hx⟩ := hgood fun j d hd' => hj j d (by rw [lx]; exact (List.getElem?_eq_some_iff.mp hd').1) hd'
        refine ⟨_, rfl, a, xs, rfl, hrow.imp sm.seq (Same.seqT sm), fun l nl => ?_⟩
        exact (q _ l (sm.trans (same_upd nl)) (sm.free nl)).1 hr (by rw [upd_same, hx])
    · refine ⟨_, tp, _, _, _, isSeqD d, rfl, htp, .cons (.ty _) (.cons (.ty _) .nil), tyx_same s1 h, kt_tl d, _, rfl, ?_⟩
      rw [hd]
      exact iteT ⟨_, rfl, xx _ _ rfl (fun z => by cases z) s1⟩
    · subst e
      have hrow1 := h.imp s1.seq (Same.seqT s1)
      obtain ⟨d0, ht, hs⟩ := row_ty hrow1
      refine ⟨_, tp, _, _, _, isSeqD d0, rfl, htp, .cons (.ty _) (.cons (.ty _) .nil), ht, kt_tl d0, _, rfl, ?_⟩
      rw [hs]
      refine iteF ⟨_, rfl, _, _, rfl, row_len hrow1, _, rfl, g, C, dx, _, _, rfl, hg1, G.cls, G.n, rfl, rfl, _, rfl, ifN (fun _ => ?_) fun e => absurd e (fun z => hl (by injection z with z; omega))⟩
      exact ⟨_, rfl, xx _ _ rfl (fun z => by cases z) s1⟩
end
end G3


set_option Elab.async false
set_option linter.all false
set_option maxRecDepth 100000
set_option maxHeartbeats 1000000
/-! tuple.index, flat items -/
namespace G3
open PySem PySem.Spec PyProof.Rows L2
section
variable {X : Cx}
def rIndexT (K : PySem.W.Frag) : V → List V → Hp → VK → Prop := fun x xs H Q => ∃ (a : Addr) (ys : List V) (y : V) (j : Nat) (z : V), x = V.ref a ∧ xs = [y] ∧ SqT K H a ys ∧ flatV y = true ∧ ys.all flatV = true ∧ ys[j]? = some z ∧ eqV z y = true ∧
  (∀ (m : Nat) (z' : V), m < j → ys[m]? = some z' → eqV z' y = false) ∧ Q (.int (j : Nat)) H
theorem mt_indexT (K : PySem.W.Frag) (hK : X.K = K) : MtR X "tuple.index" (rIndexT K) := by
  subst hK
  intro pins s σ H x xs v us Q I rx rxs h
  obtain ⟨a, ys, y, j, z, rfl, rfl, hs, fy, fys, hz, hzj, hno, q⟩ := h
  cases rx
  cases rxs with
  | cons ry rt =>
    rename_i uy ut
    cases rt
    obtain ⟨its, rv, pl, hlen⟩ := I.tuple hs
    obtain ⟨⟨cls, dd, dt, sl⟩, ho, hc, n, hd⟩ := pl
    simp only at hc hd
    subst hc hd
    obtain ⟨u, hu, ru⟩ := rv.get hz
    obtain ⟨hjl, hje⟩ := List.getElem?_eq_some_iff.mp hu
    have hvl := rv.length
    have hj : j < its.toArray.size := by simpa using hjl
    refine call_meets PySem.F.slot_tuple_index ⟨_, ho, rfl⟩ PySem.F.entry_tuple_index (PySem.F.args_tuple_index_2 _ _) (TI.tuple_indexAt a its.toArray n dd sl uy (eqU y) j hj ?_ ?_)
      ⟨ho, fun w hw => mem_eqAt ry fy rv fys w (by simpa using hw), ⟨.int (j : Nat), H, I.tok _, ⟨_, rfl⟩, q⟩⟩
    · have e1 : its.toArray[j] = u := by simpa using hje
      rw [e1, eqU_of ru (flat_at fys hz)]
      exact hzj
    · intro m hm hmj
      have hml : m < its.length := by simpa using hm
      have hmy : m < ys.length := by omega
      have hy' : ys[m]? = some ys[m] := List.getElem?_eq_getElem hmy
      obtain ⟨u2, hu2, ru2⟩ := rv.get hy'
      obtain ⟨_, hme⟩ := List.getElem?_eq_some_iff.mp hu2
      have e1 : its.toArray[m] = u2 := by simpa using hme
      rw [e1, eqU_of ru2 (flat_at fys hy')]
      exact hno m _ hmj hy'
variable {o e : Expr} {es : List Expr} {to : TE} {t : TA} {name : Str} {apos cpos : Pos} {T id : String} {r : V → List V → Hp → VK → Prop}
/-- a method of a built-in class, within a comprehension -/
theorem pe_bmK {K : PySem.W.Frag} (hK : X.K = K) (pa : PlainAttrs T) (slot : Slot T name id) (hty : typeOf (.builtin id) = pure (.type "method_descriptor")) (hm : MtR X id r) (ho : PE X o to) (ha : PA X (e :: es) t)
    (hbase : attributeBase o name X.env (eval o X.env) = eval o X.env := by rfl)
    (hfew : ((backTo cpos (starEach (e :: es) X.env)).all (fun x => !x.1) && (backToKw cpos (keywordEach [] X.env)).all (fun x => x.1.isSome)
      && decide ((e :: es).length + ([] : List Keyword).length + (if ([] : List Keyword).isEmpty then 0 else 1) < 30)) = true := by rfl)
    (hline : (apos.endLine == cpos.line) = true := by rfl) (hs : starEach (e :: es) X.env = (false, eval e X.env) :: starEach es X.env := by rfl) (hplain : (backTo cpos (starEach es X.env)).any (·.1) = false := by rfl) :
    PE X (.Call (.Attribute o name apos) (e :: es) [] cpos) (tBM K T r to t) := hK ▸ pe_bm pa slot hty hm ho ha hbase hfew hline hs hplain
/-! ### tuples whose object is known to have no dict: laid frozen -/
def Bare (ob : Obj) : Prop := ob.cls = .type "tuple" ∧ ob.dict = none
def tTupF (t : TA) : TE := fun σ H Q => t σ H fun xs H1 => xs.length ≤ sizeLine ∧ ∀ (p : Addr) (ob : Obj), H1 p = none → Bare ob → Q (.ref p) (upd H1 p (.frz ob (.tup xs)))
theorem pe_tupF {pos : Pos} {x1} (h : PA X es t) : PE X (.Tuple es x1 pos) (tTupF t) := by
  refine ⟨fun pins s σ H Q I hq => ?_⟩
  refine wpAny_Tuple_spliced (thn (h.run pos pins s σ H _ I hq) fun us s1 ⟨xs, H1, I1, r, z, q⟩ => ⟨by rw [← r.length]; exact z, ?_⟩)
  have hf : H1 s1.heap.objs.size = none := I1.hok.fresh (Nat.le_refl _)
  refine ⟨.ref s1.heap.objs.size, upd H1 s1.heap.objs.size (.frz { cls := .type "tuple", data := .seq us.toArray } (.tup xs)), I1.laid (t' := s1.toks) (fun b u e => Heap.get?_push_of_some _ e) (Nat.le_refl _) ?_, rfl, q _ _ hf ⟨rfl, rfl⟩⟩
  exact ⟨Heap.get?_push_size _ rfl, z, us, r, ⟨_, Heap.get?_push_size _ rfl, rfl, _, rfl⟩⟩
def rCatF (K : PySem.W.Frag) : R2 := fun x y H Q => ∃ a b xs ys, x = .ref a ∧ y = .ref b ∧ SqT K H a xs ∧ SqT K H b ys ∧ xs.length + ys.length ≤ sizeLine ∧ ys ≠ [] ∧ (xs = [] → Q (.ref b) H) ∧
  (xs ≠ [] → ∀ (p : Addr) (ob : Obj), H p = none → Bare ob → Q (.ref p) (upd H p (.frz ob (.tup (xs ++ ys)))))
theorem op_catF {K : PySem.W.Frag} (hK : X.K = K) : OpR X (binaryOp .Add) (rCatF K) := by
  subst hK
  intro pins s σ H x y v u Q I rx ry h
  obtain ⟨a, b, xs, ys, rfl, rfl, ha, hb, hz, hy, q0, q2⟩ := h
  cases rx
  cases ry
  obtain ⟨its, r1, p1, _⟩ := I.tuple ha
  obtain ⟨its2, r2, p2, _⟩ := I.tuple hb
  by_cases hx : xs = []
  · subst hx
    cases r1
    exact cat_tup0 p1 p2 ⟨.ref b, H, I, rfl, q0 rfl⟩
  · refine HT.cat_tup p1 p2 (fun z => hx (r1.nil_iff.mp z)) (fun z => absurd (r2.nil_iff.mp z) hy) (fun z => ?_) (by rw [← r1.length, ← r2.length]; exact hz)
    refine ⟨.ref s.heap.objs.size, _, I.laid (t' := s.toks) (o := .frz { cls := .type "tuple", data := .seq (its ++ its2).toArray } (.tup (xs ++ ys))) (fun b ob q => Heap.get?_push_of_some _ q) (Nat.le_refl _) ?_, rfl, q2 hx _ _ (I.hok.fresh (Nat.le_refl _)) ⟨rfl, rfl⟩⟩
    exact ⟨Heap.get?_push_size _ rfl, by rw [List.length_append]; exact hz, _, r1.append r2, ⟨_, Heap.get?_push_size _ rfl, rfl, _, rfl⟩⟩
def tBMT (r : V → List V → Hp → VK → Prop) (to : TE) (t : TA) : TE := fun σ H Q => to σ H fun x H1 => (∃ (p : Addr) (ob : Obj) (xs : List V), x = .ref p ∧ H1 p = some (.frz ob (.tup xs)) ∧ Bare ob) ∧ t σ H1 fun xs H2 => r x xs H2 Q
theorem pe_bmT (slot : Slot "tuple" name id) (hty : typeOf (.builtin id) = pure (.type "method_descriptor")) (hm : MtR X id r) (ho : PE X o to) (ha : PA X (e :: es) t)
    (hbase : attributeBase o name X.env (eval o X.env) = eval o X.env := by rfl)
    (hfew : ((backTo cpos (starEach (e :: es) X.env)).all (fun x => !x.1) && (backToKw cpos (keywordEach [] X.env)).all (fun x => x.1.isSome)
      && decide ((e :: es).length + ([] : List Keyword).length + (if ([] : List Keyword).isEmpty then 0 else 1) < 30)) = true := by rfl)
    (hline : (apos.endLine == cpos.line) = true := by rfl) (hs : starEach (e :: es) X.env = (false, eval e X.env) :: starEach es X.env := by rfl) (hplain : (backTo cpos (starEach es X.env)).any (·.1) = false := by rfl) :
    PE X (.Call (.Attribute o name apos) (e :: es) [] cpos) (tBMT r to t) := by
  refine ⟨fun pins s σ H Q I h => ?_⟩
  refine wpAny_Call_method_late hbase hfew hline rfl (thn (ho.run pins s σ H _ I h) fun v s1 ⟨x, H1, I1, r1, ty, q1⟩ => ?_)
  obtain ⟨p, ob, xs, rfl, hp, hcls, hdict⟩ := ty
  obtain ⟨hg, _⟩ := I1.hok p _ hp
  cases r1
  refine ⟨"tuple", id, PySem.F.plainAttrs_tuple, slot, hty, ⟨ob, hg, hcls⟩, fun a e => by cases e; exact ⟨ob, hg, hdict⟩, ?_⟩
  have hA := ha.run cpos pins s1 σ H1 _ I1 q1
  rw [hs] at hA ⊢
  refine Calls.callWith_builtin (by show (false || (backTo cpos (starEach es X.env)).any (·.1)) = false; rw [hplain] <;> rfl) (Calls.evalArgs_plain ?_)
  exact thn hA fun us s2 ⟨vs, H2, I2, r2, q2⟩ => hm pins s2 σ H2 _ vs _ us Q I2 (show RelV (.ref p) (.ref p) from rfl) r2 q2
end
end G3

set_option Elab.async false
set_option linter.all false
set_option maxRecDepth 100000
set_option maxHeartbeats 1000000
/-! min of a list of alike data; tuples put together, frozen; a def that raises nothing here -/
namespace G3
open PySem PySem.Spec PyProof.Rows L2
section
variable {prog : Program} {w : World} {A : Around} {E : Value → Shared → Prop} {s : Shared}
theorem min_list_ix {l : Addr} {vs : Array Value} {x : PyData} {xs : List PyData} {as : List Addr} {Q : Value → Shared → Prop} (hh : A.handled = none) (hl : s.heap.IsList l vs) (hr : ReadsAll s.heap vs.toList (x :: xs) as) (ha : PySem.W.AlikeAll (x :: xs)) (hu : A.units + 1 + PyData.depthAll (x :: xs) < cLine)
    (h : ∀ (i : Nat) v h' tk, vs[i]? = some v → (x :: xs).getD i .none = PySem.W.minD x xs → (∀ b o, s.heap.get? b = some o → h'.get? b = some o) → Q v { s with heap := h', toks := tk }) :
    wpAny (model prog w) A (call (.builtin "min") [.ref l]) Q E s := by
  have hn : vs.size = xs.length + 1 := PySem.W.readsAll_len hr
  refine PySem.call_min_walkH (PySem.W.iter_listW (A := A.in1) hh hl fun s₂ e W st hfp hw hk => ?_)
  refine ⟨_, _, _, _, _, _, _, s.heap, _, rfl, W, st, hfp, by omega, hw, hk, PySem.W.cmpIn_lt (A := A.in1) hr ha (by show A.units + 1 + _ < _; exact hu), fun v s' hP m => ?_⟩
  obtain ⟨h', tk, rfl, hk'⟩ := PySem.W.moved_old e rfl m
  have e1 : vs.size - 1 = xs.length := by omega
  have e2 := (PySem.W.argBest_fold PySem.W.dataLt PyData.none x xs xs.length (Nat.le_refl _)).2
  rw [List.take_length] at e2
  rw [e1] at hP
  exact h _ v h' tk hP e2 hk'
end
section
variable {X : Cx}
def rMinD (K : PySem.W.Frag) : List V → Hp → VK → Prop := fun vs H Q => ∃ (p : Addr) (xs : List V) (d : PyData) (ds : List PyData), vs = [.ref p] ∧ SqL K H p xs ∧ DpAll K H xs (d :: ds) ∧ PySem.W.AlikeAll (d :: ds) ∧ PyData.depthAll (d :: ds) ≤ 60 ∧
  ∀ (i : Nat) v, xs[i]? = some v → (d :: ds).getD i .none = PySem.W.minD d ds → Q v H
theorem call_minDL {K : PySem.W.Frag} (hK : X.K = K) (hc : X.calm = true) (hu : X.A.units + 64 < cLine) : CallR X (.builtin "min") (rMinD K) := by
  subst hK
  intro pins s σ H vs us Q I r h
  obtain ⟨p, xs, d, ds, rfl, hs, hd, ha, hdp, q⟩ := h
  obtain ⟨its, rv, hl, _⟩ := I.list hs
  obtain rfl := Vals.ref1 r
  obtain ⟨as, rd⟩ := Dp.readsAll I (d :: ds) xs its hd rv
  refine min_list_ix (I.ok.hd hc) hl.isList rd ha (by omega) fun i v h' tk hi e k => ?_
  have hi2 : its[i]? = some v := by simpa using hi
  have hlen : i < xs.length := by rw [rv.length]; exact (List.getElem?_eq_some_iff.mp hi2).1
  obtain ⟨u, hu2, ru⟩ := rv.get (List.getElem?_eq_getElem hlen)
  rw [hi2] at hu2
  cases hu2
  exact ⟨_, H, I.kept k, ru, q i _ (List.getElem?_eq_getElem hlen) e⟩
/-- tuples put together, the second one empty or not; a new one is frozen -/
def rCatG (K : PySem.W.Frag) : R2 := fun x y H Q => ∃ a b xs ys, x = .ref a ∧ y = .ref b ∧ SqT K H a xs ∧ SqT K H b ys ∧ xs.length + ys.length ≤ sizeLine ∧ xs ≠ [] ∧ (ys = [] → Q (.ref a) H) ∧
  (ys ≠ [] → ∀ (p : Addr) (ob : Obj), H p = none → Bare ob → Q (.ref p) (upd H p (.frz ob (.tup (xs ++ ys)))))
theorem op_catG {K : PySem.W.Frag} (hK : X.K = K) : OpR X (binaryOp .Add) (rCatG K) := by
  subst hK
  intro pins s σ H x y v u Q I rx ry h
  obtain ⟨a, b, xs, ys, rfl, rfl, ha, hb, hz, hx, q0, q2⟩ := h
  cases rx
  cases ry
  obtain ⟨its, r1, p1, _⟩ := I.tuple ha
  obtain ⟨its2, r2, p2, _⟩ := I.tuple hb
  refine HT.cat_tup p1 p2 (fun z => absurd (r1.nil_iff.mp z) hx) (fun z => ⟨.ref a, H, I, rfl, q0 (r2.nil_iff.mp z)⟩) (fun z => ?_) (by rw [← r1.length, ← r2.length]; exact hz)
  by_cases hy : ys = []
  · exact absurd (r2.nil_iff.mpr hy) (by first | exact z | exact z.2 | exact fun e => z.2 e)
  refine ⟨.ref s.heap.objs.size, _, I.laid (t' := s.toks) (o := .frz { cls := .type "tuple", data := .seq (its ++ its2).toArray } (.tup (xs ++ ys))) (fun b ob q => Heap.get?_push_of_some _ q) (Nat.le_refl _) ?_, rfl, q2 hy _ _ (I.hok.fresh (Nat.le_refl _)) ⟨rfl, rfl⟩⟩
  exact ⟨Heap.get?_push_size _ rfl, by rw [List.length_append]; exact hz, _, r1.append r2, ⟨_, Heap.get?_push_size _ rfl, rfl, _, rfl⟩⟩
end
/-- raises nothing, so it is told -/
theorem Has.quiet {P : Program} {w : World} {K : PySem.W.Frag} {mg : Str → Option Value} {base : Heap} {k : Nat} {x : Str} {ps : List Str} {sp : Sp} (h : Has P w K mg base (L2.CX P w) k x ps sp) : Has P w K mg base CX0 k x ps (fun vs H Q _ => sp vs H Q (fun _ _ _ => False)) := by
  obtain ⟨f, fd, F, m, kp, b⟩ := h
  refine ⟨f, fd, ⟨fun vs H Q E h => F.len _ _ _ _ h, fun A outer s H args us vs Q E hr e0 hb hv hs => ?_⟩, m, kp, b⟩
  refine codeAny_mono (F.run A outer s H args us vs Q _ hr e0 hb hv hs) fun r s' hq => ?_
  cases r with
  | error e =>
    obtain ⟨a, B, H', cls, d, _, _, _, _, _, _, _, z⟩ := hq
    exact z.elim
  | ok fl =>
    cases fl with
    | ret u => exact hq
    | next => exact hq
    | brk => exact hq
    | cont => exact hq
/-! ## rows of something -/
def All2 {α : Type} (R : V → α → Prop) : List V → List α → Prop
  | [], [] => True
  | v :: vs, r :: rs => R v r ∧ All2 R vs rs
  | _, _ => False
section
variable {α : Type} {R R' : V → α → Prop}
theorem All2.len : ∀ {vs : List V} {rs : List α}, All2 R vs rs → vs.length = rs.length
  | [], [], _ => rfl
  | v :: vs, r :: rs, h => by rw [List.length_cons, List.length_cons, All2.len h.2]
  | [], _ :: _, h => h.elim
  | _ :: _, [], h => h.elim
theorem All2.get : ∀ {vs : List V} {rs : List α}, All2 R vs rs → ∀ {i : Nat} {r : α}, rs[i]? = some r → ∃ v, vs[i]? = some v ∧ R v r
  | [], [], _, i, r, hi => by simp at hi
  | v :: vs, r :: rs, h, 0, r', hi => by
    cases Option.some.inj hi
    exact ⟨v, rfl, h.1⟩
  | v :: vs, r :: rs, h, i + 1, r', hi => by
    obtain ⟨u, h1, h2⟩ := All2.get h.2 (i := i) (r := r') (by simpa using hi)
    exact ⟨u, by simpa using h1, h2⟩
  | [], _ :: _, h, _, _, _ => h.elim
  | _ :: _, [], h, _, _, _ => h.elim
theorem All2.get' {vs : List V} {rs : List α} (h : All2 R vs rs) {i : Nat} {v : V} (hv : vs[i]? = some v) : ∃ r, rs[i]? = some r ∧ R v r := by
  have hi : i < rs.length := by rw [← h.len]; exact (List.getElem?_eq_some_iff.mp hv).1
  obtain ⟨u, h1, h2⟩ := h.get (List.getElem?_eq_getElem hi)
  rw [hv] at h1
  cases h1
  exact ⟨_, List.getElem?_eq_getElem hi, h2⟩
theorem All2.app : ∀ {vs vs2 : List V} {rs rs2 : List α}, All2 R vs rs → All2 R vs2 rs2 → All2 R (vs ++ vs2) (rs ++ rs2)
  | [], _, [], _, _, h => h
  | v :: vs, _, r :: rs, _, h, h2 => ⟨h.1, All2.app h.2 h2⟩
  | [], _, _ :: _, _, h, _ => h.elim
  | _ :: _, _, [], _, h, _ => h.elim
theorem All2.snoc {vs : List V} {rs : List α} {v : V} {r : α} (h : All2 R vs rs) (hr : R v r) : All2 R (vs ++ [v]) (rs ++ [r]) := h.app ⟨hr, True.intro⟩
theorem All2.mono (m : ∀ v r, R v r → R' v r) : ∀ {vs : List V} {rs : List α}, All2 R vs rs → All2 R' vs rs
  | [], [], _ => True.intro
  | v :: vs, r :: rs, h => ⟨m _ _ h.1, All2.mono m h.2⟩
  | [], _ :: _, h => h.elim
  | _ :: _, [], h => h.elim
end
/-- a row of places, laid frozen -/
def Frz (H : Hp) (v : V) (r : List Nat) : Prop := ∃ (t : Addr) (ob : Obj), v = .ref t ∧ H t = some (.frz ob (.tup (r.map fun n : Nat => V.int (n : Int)))) ∧ Bare ob
theorem Frz.same {H H' : Hp} {v : V} {r : List Nat} (h : Frz H v r) (e : Same H H') : Frz H' v r := by
  obtain ⟨t, ob, h1, h2, h3⟩ := h
  exact ⟨t, ob, h1, e _ _ h2, h3⟩
theorem frzAll_same {H H' : Hp} {vs : List V} {rs : List (List Nat)} (h : All2 (Frz H) vs rs) (e : Same H H') : All2 (Frz H') vs rs := h.mono fun _ _ h => h.same e
/-- a row of numbers, as a tuple -/
def TupI (K : PySem.W.Frag) (H : Hp) (v : V) (r : List Int) : Prop := ∃ t : Addr, v = .ref t ∧ SqT K H t (r.map V.int)
theorem TupI.same {K : PySem.W.Frag} {H H' : Hp} {v : V} {r : List Int} (h : TupI K H v r) (e : Same H H') : TupI K H' v r := by
  obtain ⟨t, h1, h2⟩ := h
  exact ⟨t, h1, Same.seqT e h2⟩
theorem tupIAll_same {K : PySem.W.Frag} {H H' : Hp} {vs : List V} {rs : List (List Int)} (h : All2 (TupI K H) vs rs) (e : Same H H') : All2 (TupI K H') vs rs := h.mono fun _ _ h => h.same e
end G3

set_option Elab.async false
set_option linter.all false
set_option maxRecDepth 100000
set_option maxHeartbeats 4000000
namespace G3
open PySem PySem.Spec PyProof.Rows L2
section
variable {P : Program} {w : World} {K : PySem.W.Frag} {mg : Str → Option Value} {base : Heap} {C : Addr}
abbrev n_check_place : List Str := ["graph", "place"]
abbrev p_check_place : List Str := ["graph", "place"]
theorem sc_check_place : FnScope n_check_place p_check_place (defScope s_check_place) := ⟨rfl, rfl, rfl, by decide +kernel, rfl, by decide +kernel, by decide +kernel⟩
abbrev n_is_low : List Str := ["graph", "chips", "place", "at", "many"]
abbrev p_is_low : List Str := ["graph", "chips", "place"]
theorem sc_is_low : FnScope n_is_low p_is_low (defScope s_is_low) := ⟨rfl, rfl, rfl, by decide +kernel, rfl, by decide +kernel, by decide +kernel⟩
abbrev n_is_reduced : List Str := ["graph", "chips", "place", "told"]
abbrev p_is_reduced : List Str := ["graph", "chips", "place"]
theorem sc_is_reduced : FnScope n_is_reduced p_is_reduced (defScope s_is_reduced) := ⟨rfl, rfl, rfl, by decide +kernel, rfl, by decide +kernel, by decide +kernel⟩
abbrev n_reduced : List Str := ["graph", "chips", "place", "told", "later", "script"]
abbrev p_reduced : List Str := ["graph", "chips", "place"]
theorem sc_reduced : FnScope n_reduced p_reduced (defScope s_reduced) := ⟨rfl, rfl, rfl, by decide +kernel, rfl, by decide +kernel, by decide +kernel⟩
/-- a sum is told, quietly -/
def spTellF (m : Memo) (K : PySem.W.Frag) (C : Addr) : Sp := fun vs H Q _ => ∃ (g kd a : Addr) (R : Addr → Prop) (n : Nat) (es : List Pr) (cs : Nat → Int), vs = [.ref g, .ref a] ∧ Gr m H C g kd R n es ∧ (SqL K H a (rowF n cs) ∨ SqT K H a (rowF n cs)) ∧ ∀ (H' : Hp) (l : Addr), Same H H' → H l = none → H' l = some (.lst (rowF n cs)) → Q (.ref l) H'
theorem tellF {m : Memo} {CB : Addr} {k : Nat} {x : Str} {ps : List Str} (h : Has P w K mg base (L2.CX P w) k x ps (spTold m K C CB)) : Has P w K mg base CX0 k x ps (spTellF m K C) := by
  obtain ⟨f, fd, ⟨hl, hrun⟩, m1, kp, b⟩ := h
  have h : Has P w K mg base (L2.CX P w) k x ps (spTold m K C CB) := ⟨f, fd, ⟨hl, hrun⟩, m1, kp, b⟩
  refine h.quiet.imp fun vs H Q E hh => ?_
  obtain ⟨g, kd, a, R, n, es, cs, rfl, gr, hr, q⟩ := hh
  rw [rowF_map] at hr
  refine ⟨g, kd, R, n, es, .ref a, .bl true, _, rfl, gr, .good rfl hr (by rw [List.length_map, List.length_range]), fun H' l sm nl => ⟨fun _ hl => q H' l sm nl (by rw [rowF_map]; exact hl), fun ne => absurd rfl ne⟩⟩
def spChk (m : Memo) (C : Addr) : Sp := fun vs H Q _ => ∃ (g kd : Addr) (R : Addr → Prop) (n : Nat) (es : List Pr) (p : Nat), vs = [.ref g, nV p] ∧ Gr m H C g kd R n es ∧ p < n ∧ Q .non H
theorem ok_check_place {m : Memo} (D : DefAt K mg "check_place" "check_place" s_check_place) (B : Bt mg) (G : GraphC K C) (h_is_whole_graphs : Has P w K mg base CX0 1 "is_whole_graphs" p_is_whole (spIsI K)) : Has P w K mg base CX0 2 "check_place" p_check_place (spChk m C) := by
  refine has_of D sc_check_place (fun _ _ _ _ _ _ us hl => match us, hl with | [_, _], _ => rfl) (fun vs H Q E h => ?_) (fun f cdv A outer s H vs Q E hr h => ?_)
  · obtain ⟨g, kd, R, n, es, p, rfl, _⟩ := h
    rfl
  · obtain ⟨g, kd, R, n, es, p, rfl, gr, hp, q⟩ := h
    refine ⟨_, (pss_one (ps_if (PW.pt (pw_or (pt_not (pt_val (pe_h h_is_whole_graphs hr pass0 (pa_cons (pv 1) pa_nil)))) (pw_or1 (pt_not (pt_chain op_le op_lt pe_int (pv 1) (fldK (K := K) rfl (pv 0) rfl)))))) (pss_one ps_never) pss_nil)), ?_⟩
    obtain ⟨⟨dx, eT, vs, hg, _, _, rg, _, _⟩, _⟩ := id gr
    refine ⟨_, rfl, nV p, .int (p : Nat), rfl, .int _, _, rfl, ?_⟩
    refine iteF ?_
    refine ⟨_, rfl, _, _, rfl, rfl, _, rfl, ifD (fun _ => ?_) (fun ne => absurd (Int.natCast_nonneg p) ne)⟩
    refine ⟨_, rfl, g, C, dx, _, _, rfl, hg, G.cls, G.n, rfl, _, _, rfl, rfl, _, rfl, ?_⟩
    rw [decide_eq_true (show (p : Int) < (n : Int) by omega)]
    exact iteF q
def spIsLow (m : Memo) (C : Addr) : Sp := fun vs H Q _ => ∃ (g kd c : Addr) (R : Addr → Prop) (n : Nat) (es : List Pr) (cs : Nat → Int) (p : Nat), vs = [.ref g, .ref c, nV p] ∧ Gr m H C g kd R n es ∧ H c = some (.lst (rowF n cs)) ∧ p < n ∧ ∀ (H' : Hp) (R' : Addr → Prop) (b : Bool), Stp m C g kd n es H R H' R' → (b = true ↔ Low n es cs p) → Q (.bl b) H'
theorem ok_is_low {m : Memo} (D : DefAt K mg "is_low" "is_low" s_is_low) (B : Bt mg) (h_unburnt : Has P w K mg base CX0 2 "unburnt" p_unburnt (spUnb m K C)) : Has P w K mg base CX0 3 "is_low" p_is_low (spIsLow m C) := by
  refine has_of D sc_is_low (fun _ _ _ _ _ _ us hl => match us, hl with | [_, _, _], _ => rfl) (fun vs H Q E h => ?_) (fun f cdv A outer s H vs Q E hr h => ?_)
  · obtain ⟨g, kd, c, R, n, es, cs, p, rfl, _⟩ := h
    rfl
  · obtain ⟨g, kd, c, R, n, es, cs, p, rfl, gr, hc, hp, q⟩ := h
    refine ⟨_, (pss_cons (ps_if (pt_val (pe_callB (anyK (K := K) rfl rfl) rfl B.any (by decide +kernel) (pa_cons (pe_lc (own := [("at", 3), ("many", 4)]) (g := _) (tt := _) rfl sc_is_low.nd (pi_enum rfl B.enumerate (pa_cons (pv 1) pa_nil)) (blkOk_by (N := n_is_low) (sc := defScope s_is_low) (by decide +kernel)) (fun _ _ _ _ _ => (pgT (K := K) (n := 2) rfl rfl (pgs_cons (pg_name (i := 3) sc_is_low.nd rfl (.inl rfl)) (pgs_cons (pg_name (i := 4) sc_is_low.nd rfl (.inl rfl)) pgs_nil)))) (fun _ _ _ _ _ => (pts_one (pt_cmpR op_ne (pv 3) (pv 2) (nomark _)))) (fun _ _ _ _ _ => (pe_cmpR op_lt (pv 4) pe_int (nomark _)))) pa_nil))) (pss_one (ps_ret pe_bl)) pss_nil)
  (pss_one (ps_ret (pe_callB (allK (K := K) rfl rfl) rfl B.all (by decide +kernel) (pa_cons (pe_lc (own := [("many", 4)]) (g := gName 4) (tt := tYes) rfl sc_is_low.nd (piL (K := K) rfl (pe_h h_unburnt hr pass0 (pa_cons (pv 0) (pa_cons (pv 1) (pa_cons (pv 2) pa_nil))))) (blkOk_by (N := n_is_low) (sc := defScope s_is_low) (by decide +kernel)) (fun _ _ _ _ _ => (pg_name (i := 4) sc_is_low.nd rfl (.inl rfl))) (fun _ _ _ _ _ => pts_nil) (fun _ _ _ _ _ => (pe_cmpR op_isN (pv 4) pe_non (nomark _)))) pa_nil))))), ?_⟩
    have hn64 : n ≤ 64 := gr.2.2.2.1
    refine ⟨_, rfl, c, _, rfl, SqL.of hc, fun A0 nA => ?_⟩
    refine lc_it (walk_enum (K := K) (a := c) (xs := rowF n cs)) (fun i H4 => Same H H4 ∧ H4 A0 = some (.lst ((((List.range i).filter fun v => decide (v ≠ p)).map fun v => decide (cs v < 0)).map V.bl))) ⟨same_upd nA, upd_same⟩ (fun i H4 _ p => SqL.of (p.1 _ _ hc)) ?_ ?_
    · rintro i v H4 H5 hi ⟨s4, hA⟩ ⟨T, x, y, rfl, nT, rfl, hx, hy⟩
      obtain rfl : V.int (i : Nat) = x := Option.some.inj hx
      have hi : i < n := by rw [rowF_len] at hi; exact hi
      have hy : (rowF n cs)[i]? = some y := hy
      rw [rowF_get hi] at hy
      obtain rfl := Option.some.inj hy
      have sT : Same H4 (upd H4 T (.tup [.int (i : Nat), .int (cs i)])) := same_upd nT
      have ef : (List.range (i + 1)).filter (fun v => decide (v ≠ p)) = (List.range i).filter (fun v => decide (v ≠ p)) ++ if i ≠ p then [i] else [] := by
        rw [List.range_succ, List.filter_append, List.filter_cons]
        by_cases e : i = p
        · rw [if_neg (by rw [decide_eq_false (fun z => z e)]; exact Bool.false_ne_true), if_neg (fun z => z e)]; rfl
        · rw [if_pos (decide_eq_true e), if_pos e]; rfl
      refine ⟨T, _, rfl, SqT.of upd_same, rfl, _, _, rfl, _, _, rfl, rfl, rfl, ?_⟩
      refine ⟨_, rfl, _, rfl, rfl, _, rfl, ifN (fun ne => ?_) (fun e => ?_)⟩
      · have ne : i ≠ p := fun z => ne (congrArg nV z)
        refine ⟨_, rfl, _, _, rfl, rfl, ?_⟩
        refine ⟨_, sT _ _ hA, size_lt ?_, same_mut (s4.trans sT) nA, ?_⟩
        · rw [List.length_map, List.length_map]
          have := List.length_filter_le (fun v => decide (v ≠ p)) (List.range i)
          rw [List.length_range] at this
          omega
        · rw [upd_same, ef, if_pos ne, List.map_append, List.map_append]; rfl
      · have e : i = p := by
          have e : nV i = nV p := e
          injection e with e; omega
        refine ⟨s4.trans sT, ?_⟩
        rw [ef, if_neg (fun z => z e), List.append_nil]
        exact sT _ _ hA
    rintro H4 ⟨s4, hA⟩
    rw [rowF_len] at hA
    refine ⟨A0, _, rfl, SqL.of hA, _, rfl, ?_⟩
    have hany : ((((List.range n).filter fun v => decide (v ≠ p)).map fun v => decide (cs v < 0)).any id) = false ↔ ∀ v, v < n → v ≠ p → 0 ≤ cs v := by
      rw [List.any_eq_false]
      constructor
      · intro h v hv hne
        have := h _ (List.mem_map.mpr ⟨v, List.mem_filter.mpr ⟨List.mem_range.mpr hv, decide_eq_true hne⟩, rfl⟩)
        rcases Int.lt_or_le (cs v) 0 with z | z
        · exact absurd (decide_eq_true z) this
        · exact z
      · intro h b hb
        obtain ⟨v, hv, rfl⟩ := List.mem_map.mp hb
        obtain ⟨h1, h2⟩ := List.mem_filter.mp hv
        have := h v (List.mem_range.mp h1) (of_decide_eq_true h2)
        intro z
        have := of_decide_eq_true z
        omega
    have st4 := (StX.refl gr).alloc s4
    refine ifB (fun e => ?_) (fun e => ?_)
    · refine q H4 R false st4 ⟨fun z => (nomatch z), fun low => ?_⟩
      rw [hany.mpr low.1] at e
      cases e
    · have h0 := hany.mp e
      refine nx_ ?_
      refine ⟨_, rfl, _, rfl, _, rfl, g, kd, c, R, n, es, cs, p, rfl, st4.gr, s4 _ _ hc, hp, fun H5 R5 L S c5 nL nRL clo least hL => ?_⟩
      refine ⟨L, rfl, ⟨_, SqL.of hL⟩, fun B0 nB => ?_⟩
      refine lc_list (K := K) (a := L) (xs := heatL n S (heatS n es S)) (fun i H6 => Same H5 H6 ∧ H6 B0 = some (.lst (((List.range i).map S).map V.bl))) ⟨same_upd nB, upd_same⟩ (fun i H6 _ p => SqL.of (p.1 _ _ hL)) ?_ ?_
      · rintro i x H6 hx ⟨s6, hB⟩
        have hi : i < n := by have := (List.getElem?_eq_some_iff.mp hx).1; rwa [heatL_len] at this
        rw [heatL_get hi] at hx
        obtain rfl := Option.some.inj hx
        refine ⟨rfl, yes_ ?_⟩
        refine ⟨_, rfl, rfl, _, hB, size_lt (by rw [List.length_map, List.length_map, List.length_range]; omega), same_mut s6 nB, ?_⟩
        rw [upd_same, List.range_succ, List.map_append, List.map_append]
        have : V.bl (decide (heatV S (heatS n es S) i = .non)) = V.bl (S i) := by
          unfold heatV
          cases S i with
          | true => rw [if_pos rfl, decide_eq_true rfl]
          | false => rw [if_neg Bool.false_ne_true, decide_eq_false (fun z => nomatch z)]
        rw [this]; rfl
      · rintro H6 ⟨s6, hB⟩
        rw [heatL_len] at hB
        refine ⟨B0, _, rfl, SqL.of hB, ?_⟩
        refine q H6 R5 _ ((st4.call c5).alloc s6) ?_
        rw [List.all_eq_true]
        constructor
        · intro h
          refine ⟨h0, fun T hT v hv => least T hT v hv ?_⟩
          exact h _ (List.mem_map.mpr ⟨v, List.mem_range.mpr hv, rfl⟩)
        · intro low b hb
          obtain ⟨v, hv, rfl⟩ := List.mem_map.mp hb
          exact low.2 S clo v (List.mem_range.mp hv)
def spIsRed (m : Memo) (K : PySem.W.Frag) (C : Addr) : Sp := fun vs H Q _ => ∃ (g kd a : Addr) (R : Addr → Prop) (n : Nat) (es : List Pr) (cs : Nat → Int) (p : Nat), vs = [.ref g, .ref a, nV p] ∧ Gr m H C g kd R n es ∧ (SqL K H a (rowF n cs) ∨ SqT K H a (rowF n cs)) ∧ p < n ∧ ∀ (H' : Hp) (R' : Addr → Prop) (b : Bool), Stp m C g kd n es H R H' R' → (b = true ↔ Low n es cs p) → Q (.bl b) H'
theorem ok_is_reduced {m : Memo} (D : DefAt K mg "is_reduced" "is_reduced" s_is_reduced) (B : Bt mg) (h_told_sum : Has P w K mg base CX0 2 "told_sum" p_told_sum (spTellF m K C)) (h_check_place : Has P w K mg base CX0 2 "check_place" p_check_place (spChk m C)) (h_is_low : Has P w K mg base CX0 3 "is_low" p_is_low (spIsLow m C)) : Has P w K mg base CX0 4 "is_reduced" p_is_reduced (spIsRed m K C) := by
  refine has_of D sc_is_reduced (fun _ _ _ _ _ _ us hl => match us, hl with | [_, _, _], _ => rfl) (fun vs H Q E h => ?_) (fun f cdv A outer s H vs Q E hr h => ?_)
  · obtain ⟨g, kd, a, R, n, es, cs, p, rfl, _⟩ := h
    rfl
  · obtain ⟨g, kd, a, R, n, es, cs, p, rfl, gr, hc, hp, q⟩ := h
    refine ⟨_, (pss_cons (ps_set (i := 3) sc_is_reduced.nd rfl (.inl rfl) (pe_h h_told_sum hr pass0 (pa_cons (pv 0) (pa_cons (pv 1) pa_nil))))
  (pss_cons (ps_expr (pe_h h_check_place hr pass0 (pa_cons (pv 0) (pa_cons (pv 2) pa_nil))))
  (pss_one (ps_ret (pe_h h_is_low hr pass0 (pa_cons (pv 0) (pa_cons (pv 3) (pa_cons (pv 2) pa_nil)))))))), ?_⟩
    refine ⟨_, rfl, _, rfl, g, kd, a, R, n, es, cs, rfl, gr, hc, fun H1 l s1 nl hl => ?_⟩
    have st1 := (StX.refl gr).alloc s1
    refine ⟨_, rfl, _, rfl, g, kd, R, n, es, p, rfl, st1.gr, hp, ?_⟩
    exact ⟨_, rfl, _, rfl, _, rfl, g, kd, l, R, n, es, cs, p, rfl, st1.gr, hl, hp, fun H2 R2 b c2 e => q H2 R2 b (st1.call c2) e⟩
def spRed (m : Memo) (K : PySem.W.Frag) (C : Addr) : Sp := fun vs H Q _ => ∃ (g kd a : Addr) (R : Addr → Prop) (n : Nat) (es : List Pr) (cs : Nat → Int) (p : Nat), vs = [.ref g, .ref a, nV p] ∧ Gr m H C g kd R n es ∧ (SqL K H a (rowF n cs) ∨ SqT K H a (rowF n cs)) ∧ p < n ∧ (∀ v, v < n → (cs v).natAbs < 2 ^ bigE) ∧
  ∀ (H' : Hp) (R' : Addr → Prop) (T S L : Addr) (s : Nat → Int), Stp m C g kd n es H R H' R' → H' T = some (.tup [.ref L, .ref S]) → H' S = some (.tup (rowF n s)) → H' L = some (.tup (rowF n fun v => cs v - lapF n es s v)) → s p = 0 → Low n es (fun v => cs v - lapF n es s v) p → Q (.ref T) H'
theorem ok_reduced {m : Memo} (D : DefAt K mg "reduced" "reduced" s_reduced) (B : Bt mg) (h_told_sum : Has P w K mg base CX0 2 "told_sum" p_told_sum (spTellF m K C)) (h_check_place : Has P w K mg base CX0 2 "check_place" p_check_place (spChk m C)) (h_led_down : Has P w K mg base CX0 6 "led_down" p_led_down (spLow m C)) : Has P w K mg base CX0 7 "reduced" p_reduced (spRed m K C) := by
  refine has_of D sc_reduced (fun _ _ _ _ _ _ us hl => match us, hl with | [_, _, _], _ => rfl) (fun vs H Q E h => ?_) (fun f cdv A outer s H vs Q E hr h => ?_)
  · obtain ⟨g, kd, a, R, n, es, cs, p, rfl, _⟩ := h
    rfl
  · obtain ⟨g, kd, a, R, n, es, cs, p, rfl, gr, hc, hp, hb, q⟩ := h
    refine ⟨_, (pss_cons (ps_set (i := 3) sc_reduced.nd rfl (.inl rfl) (pe_h h_told_sum hr pass0 (pa_cons (pv 0) (pa_cons (pv 1) pa_nil))))
  (pss_cons (ps_expr (pe_h h_check_place hr pass0 (pa_cons (pv 0) (pa_cons (pv 2) pa_nil))))
  (pss_cons (ps_asg (pe_h h_led_down hr pass0 (pa_cons (pv 0) (pa_cons (pv 3) (pa_cons (pv 2) pa_nil)))) (pgT (K := K) (n := 2) rfl rfl (pgs_cons (pg_name (i := 4) sc_reduced.nd rfl (.inl rfl)) (pgs_cons (pg_name (i := 5) sc_reduced.nd rfl (.inl rfl)) pgs_nil))))
  (pss_one (ps_ret (pe_tup (pa_cons (pe_callTy (tupK (K := K) rfl) rfl B.tuple (by decide +kernel) (pa_cons (pv 4) pa_nil)) (pa_cons (pe_callTy (tupK (K := K) rfl) rfl B.tuple (by decide +kernel) (pa_cons (pv 5) pa_nil)) pa_nil)))))))), ?_⟩
    refine ⟨_, rfl, _, rfl, g, kd, a, R, n, es, cs, rfl, gr, hc, fun H1 l s1 nl hl => ?_⟩
    have st1 := (StX.refl gr).alloc s1
    refine ⟨_, rfl, _, rfl, g, kd, R, n, es, p, rfl, st1.gr, hp, ?_⟩
    refine ⟨_, rfl, _, rfl, _, rfl, g, kd, l, R, n, es, cs, p, rfl, st1.gr, hl, hp, hb, fun H2 R2 T S L s c2 nS nL nSL nRS nRL hT hS hL sp low => ?_⟩
    have st2 := st1.call c2
    refine ⟨T, _, rfl, SqT.of hT, rfl, _, _, rfl, _, _, rfl, rfl, ?_⟩
    refine ⟨_, rfl, L, _, rfl, .inl ⟨SqL.of hL, fun l1 nl1 => ?_⟩⟩
    have a1 := same_upd (o := HO.tup (rowF n fun v => cs v - lapF n es s v)) nl1
    refine ⟨_, rfl, S, _, rfl, .inl ⟨SqL.of (a1 _ _ hS), fun l2 nl2 => ?_⟩⟩
    have a2 := same_upd (o := HO.tup (rowF n s)) nl2
    refine ⟨by show 2 ≤ sizeLine; decide, fun T2 nT2 => ?_⟩
    have a3 := same_upd (o := HO.tup [.ref l1, .ref l2]) nT2
    exact q _ R2 T2 l2 l1 s (st2.alloc (a1.trans (a2.trans a3))) upd_same (a3 _ _ upd_same) (a3 _ _ (a2 _ _ upd_same)) sp low
end
end G3

set_option Elab.async false
set_option linter.all false
set_option maxRecDepth 100000
set_option maxHeartbeats 4000000
namespace G3
open PySem PySem.Spec PyProof.Rows L2
/-! ## the order in which places burn, always the lowest one -/
def hO (es : List Pr) (l : List Nat) (v : Nat) : Int := (l.map fun u => mI es v u).sum
theorem hO_snoc {es : List Pr} {l : List Nat} {x v : Nat} : hO es (l ++ [x]) v = hO es l v + mI es v x := by
  unfold hO
  rw [List.map_append, List.sum_append]
  show _ + (mI es v x + 0) = _
  rw [Int.add_zero]
def isNextB (es : List Pr) (cs : Nat → Int) (l : List Nat) (v : Nat) : Bool := !decide (v ∈ l) && decide (cs v < hO es l v)
def nextB (n : Nat) (es : List Pr) (cs : Nat → Int) (l : List Nat) : Option Nat := (List.range n).find? (isNextB es cs l)
structure BurnO (n : Nat) (es : List Pr) (cs : Nat → Int) (p : Nat) (O : List Nat) : Prop where
  hd : O[0]? = some p
  nd : O.Nodup
  lt : ∀ v, v ∈ O → v < n
  nx : ∀ k, 0 < k → k ≤ O.length → nextB n es cs (O.take k) = O[k]?
/-- on its way: h is the next one -/
structure BurnH (n : Nat) (es : List Pr) (cs : Nat → Int) (p : Nat) (O : List Nat) (h : Option Nat) : Prop where
  hd : (O = [] ∧ h = some p) ∨ (O[0]? = some p ∧ nextB n es cs O = h)
  nd : O.Nodup
  lt : ∀ v, v ∈ O → v < n
  hn : ∀ x, h = some x → x < n ∧ x ∉ O
  nx : ∀ k, 0 < k → k < O.length → nextB n es cs (O.take k) = O[k]?
theorem BurnH.step {n : Nat} {es : List Pr} {cs : Nat → Int} {p : Nat} {O : List Nat} {x : Nat} (b : BurnH n es cs p O (some x)) : BurnH n es cs p (O ++ [x]) (nextB n es cs (O ++ [x])) where
  hd := .inr ⟨by
    rcases b.hd with ⟨e1, e2⟩ | ⟨e1, e2⟩
    · rw [e1]; exact e2
    · rw [List.getElem?_append_left]
      · exact e1
      · exact (List.getElem?_eq_some_iff.mp e1).1, rfl⟩
  nd := List.nodup_append.mpr ⟨b.nd, List.nodup_cons.mpr ⟨List.not_mem_nil, List.nodup_nil⟩, fun a ha c hc e => by
    rw [List.mem_singleton.mp hc] at e
    exact (b.hn x rfl).2 (e ▸ ha)⟩
  lt := fun v hv => by
    rcases List.mem_append.mp hv with z | z
    · exact b.lt v z
    · rw [List.mem_singleton.mp z]; exact (b.hn x rfl).1
  hn := fun y hy => by
    have h1 := List.find?_some hy
    have h2 := List.mem_of_find?_eq_some hy
    unfold isNextB at h1
    rw [Bool.and_eq_true, Bool.not_eq_true'] at h1
    exact ⟨List.mem_range.mp h2, of_decide_eq_false h1.1⟩
  nx := fun k h0 hk => by
    rw [List.length_append] at hk
    have hk : k < O.length + 1 := hk
    by_cases c : k < O.length
    · rw [List.take_append_of_le_length (by omega), List.getElem?_append_left c]
      exact b.nx k h0 c
    · have : k = O.length := by omega
      subst this
      rw [List.take_append_of_le_length (Nat.le_refl _), List.take_length, List.getElem?_append_right (Nat.le_refl _), Nat.sub_self]
      rcases b.hd with ⟨e1, _⟩ | ⟨_, e2⟩
      · rw [e1] at h0; exact absurd h0 (Nat.lt_irrefl _)
      · exact e2
theorem BurnH.done {n : Nat} {es : List Pr} {cs : Nat → Int} {p : Nat} {O : List Nat} (b : BurnH n es cs p O none) : BurnO n es cs p O := by
  rcases b.hd with ⟨_, e2⟩ | ⟨e1, e2⟩
  · cases e2
  · refine ⟨e1, b.nd, b.lt, fun k h0 hk => ?_⟩
    by_cases c : k < O.length
    · exact b.nx k h0 c
    · have : k = O.length := by omega
      subst this
      rw [List.take_length, e2, List.getElem?_eq_none (Nat.le_refl _)]
theorem flat_nV : ∀ l : List Nat, (l.map nV).all flatV = true
  | [] => rfl
  | a :: l => by rw [List.map_cons, List.all_cons, flat_nV l]; rfl
theorem inV_dec {a : Nat} : ∀ l : List Nat, inV (nV a) (l.map nV) = decide (a ∈ l)
  | [] => rfl
  | b :: l => by
    rw [List.map_cons]
    show (eqV (nV b) (nV a) || inV (nV a) (l.map nV)) = _
    rw [inV_dec l]
    have e : eqV (nV b) (nV a) = decide (a = b) := by
      show decide ((b : Int) = (a : Int)) = _
      exact decide_eq_decide.mpr ⟨fun h => (Int.ofNat.inj h).symm, fun h => by rw [h]⟩
    rw [e]
    by_cases c : a = b
    · rw [decide_eq_true c, c, Bool.true_or]
      exact (decide_eq_true (List.mem_cons_self ..)).symm
    · rw [decide_eq_false c, Bool.false_or]
      exact decide_eq_decide.mpr ⟨fun h => List.mem_cons_of_mem _ h, fun h => (List.mem_cons.mp h).elim (fun z => absurd z c) id⟩
def hereV : Option Nat → V
  | none => .non
  | some x => nV x
section
variable {P : Program} {w : World} {K : PySem.W.Frag} {mg : Str → Option Value} {base : Heap} {C : Addr}
abbrev n_burnt_order : List Str := ["graph", "chips", "place", "heat", "order", "here", "other", "many", "next_ones", "at"]
abbrev p_burnt_order : List Str := ["graph", "chips", "place"]
theorem sc_burnt_order : FnScope n_burnt_order p_burnt_order (defScope s_burnt_order) := ⟨rfl, rfl, rfl, by decide +kernel, rfl, by decide +kernel, by decide +kernel⟩
abbrev n_burning : List Str := ["graph", "chips", "place", "told", "order", "at"]
abbrev p_burning : List Str := ["graph", "chips", "place"]
theorem sc_burning : FnScope n_burning p_burning (defScope s_burning) := ⟨rfl, rfl, rfl, by decide +kernel, rfl, by decide +kernel, by decide +kernel⟩
def spBO (m : Memo) (C : Addr) : Sp := fun vs H Q _ => ∃ (g kd c : Addr) (R : Addr → Prop) (n : Nat) (es : List Pr) (cs : Nat → Int) (p : Nat), vs = [.ref g, .ref c, nV p] ∧ Gr m H C g kd R n es ∧ H c = some (.lst (rowF n cs)) ∧ p < n ∧
  ∀ (H' : Hp) (R' : Addr → Prop) (L : Addr) (O : List Nat), Stp m C g kd n es H R H' R' → H L = none → ¬ R' L → H' L = some (.lst (O.map nV)) → BurnO n es cs p O → Q (.ref L) H'
theorem ok_burnt_order {m : Memo} (D : DefAt K mg "burnt_order" "burnt_order" s_burnt_order) (B : Bt mg) (G : GraphC K C) (h_beside : Has P w K mg base CX0 1 "beside" p_beside (spBeside m C)) : Has P w K mg base CX0 2 "burnt_order" p_burnt_order (spBO m C) := by
  refine has_of D sc_burnt_order (fun _ _ _ _ _ _ us hl => match us, hl with | [_, _, _], _ => rfl) (fun vs H Q E h => ?_) (fun f cdv A outer s H vs Q E hr h => ?_)
  · obtain ⟨g, kd, c, R, n, es, cs, p, rfl, _⟩ := h
    rfl
  · obtain ⟨g, kd, c, R, n, es, cs, p, rfl, gr, hc, hp, q⟩ := h
    refine ⟨_, (pss_cons (ps_set (i := 3) sc_burnt_order.nd rfl (.inl rfl) (pe_op op_rep (pe_lst (pa_cons pe_int pa_nil)) (fldK (K := K) rfl (pv 0) rfl)))
  (pss_cons (ps_set (i := 4) sc_burnt_order.nd rfl (.inl rfl) (pe_lst pa_nil))
  (pss_cons (ps_set (i := 5) sc_burnt_order.nd rfl (.inl rfl) (pv 2))
  (pss_cons (ps_while PassesOwn.never (pt_cmpR op_notN (pv 5) pe_non (nomark _)) (pss_cons (ps_expr (pe_bm PySem.F.plainAttrs_list PySem.F.slot_list_append PySem.F.type_list_append mt_append (pv 4) (pa_cons (pv 5) pa_nil)))
  (pss_cons (ps_asg pe_non (pg_sub (pv 3) (pv 5) set_list))
  (pss_cons (ps_for PassesOwn.never rfl (piL (K := K) rfl (pe_ix (ixL (K := K) rfl) (pe_h h_beside hr pass0 (pa_cons (pv 0) pa_nil)) (pv 5) (fun _ _ => rfl))) (pgT (K := K) (n := 2) rfl rfl (pgs_cons (pg_name (i := 6) sc_burnt_order.nd rfl (.inl rfl)) (pgs_cons (pg_name (i := 7) sc_burnt_order.nd rfl (.inl rfl)) pgs_nil))) (pss_one (ps_if (pt_cmpR op_notN (pe_ix (ixL (K := K) rfl) (pv 3) (pv 6) (fun _ _ => rfl)) pe_non (nomark _)) (pss_one (ps_asg (pe_op op_add (pe_ix (ixL (K := K) rfl) (pv 3) (pv 6) (fun _ _ => rfl)) (pv 7)) (pg_sub (pv 3) (pv 6) set_list))) pss_nil)))
  (pss_cons (ps_setLc (i := 8) (own := [("at", 9), ("many", 7)]) (g := _) (tt := _) rfl sc_burnt_order.nd rfl rfl (sw_true rfl rfl rfl (by decide +kernel)) (pi_enum rfl B.enumerate (pa_cons (pv 3) pa_nil)) (blkOk_by (N := n_burnt_order) (sc := defScope s_burnt_order) (by decide +kernel)) (fun _ _ _ _ _ => (pgT (K := K) (n := 2) rfl rfl (pgs_cons (pg_name (i := 9) sc_burnt_order.nd rfl (.inl rfl)) (pgs_cons (pg_name (i := 7) sc_burnt_order.nd rfl (.inl rfl)) pgs_nil)))) (fun _ _ _ _ _ => (pts_one (PW.pt (pw_and (pt_cmpR op_notN (pv 7) pe_non (nomark _)) (pw_and1 (pt_cmpR op_gt (pv 7) (pe_ix (ixL (K := K) rfl) (pv 1) (pv 9) (fun _ _ => rfl)) (nomark _))))))) (fun _ _ _ _ _ => (pv 9)))
  (pss_one (ps_set (i := 5) sc_burnt_order.nd rfl (.inl rfl) (pe_ifExp (pt_truth (pv 8) (by intro _; rfl)) (pe_ix (ixL (K := K) rfl) (pv 8) pe_int (fun _ _ => rfl)) pe_non))))))))
  (pss_one (ps_ret (pv 4))))))), ?_⟩
    have edg := gr.edg
    have good := gr.2.1
    have hn64 : n ≤ 64 := gr.2.2.2.1
    have he4 := gr.2.2.2.2.1
    obtain ⟨⟨dx, eT, vs, hg, _, _, rg, _, _⟩, _⟩ := id gr
    obtain ⟨kvs, hkd⟩ := gr.kdo
    -- heat
    refine ⟨by show 1 ≤ sizeLine; decide, fun r0 nr0 => ?_⟩
    have a1 : Same H (upd H r0 (.lst [.int 0])) := same_upd nr0
    have hr0 : (upd H r0 (.lst [.int 0])) r0 = some (.lst [.int 0]) := upd_same
    refine ⟨_, rfl, g, C, dx, _, _, rfl, a1 _ _ hg, G.cls, G.n, rfl, ?_⟩
    refine ⟨r0, n, [.int 0], rfl, rfl, hr0, by omega, by omega, size_le (by show 1 * _ ≤ _; omega), fun L1 nL1 => ?_⟩
    rw [Int.toNat_natCast, rep_range]
    have nL0 : H L1 = none := a1.free nL1
    have s1 : Same H (upd (upd H r0 (.lst [.int 0])) L1 (.lst ((List.range n).map fun _ => .int 0))) := a1.trans (same_upd nL1)
    have hL1 : (upd (upd H r0 (.lst [.int 0])) L1 (.lst ((List.range n).map fun _ => .int 0))) L1 = some (.lst ((List.range n).map fun _ => .int 0)) := upd_same
    generalize upd (upd H r0 (.lst [.int 0])) L1 (.lst ((List.range n).map fun _ => .int 0)) = H1 at s1 hL1 ⊢
    refine nx_ ?_
    refine ⟨by show 0 ≤ sizeLine; decide, fun W0 nW => ?_⟩
    have s2 : Same H1 (upd H1 W0 (.lst [])) := same_upd nW
    have hW : (upd H1 W0 (.lst [])) W0 = some (.lst []) := upd_same
    have nWL : W0 ≠ L1 := fun z => by rw [z, hL1] at nW; cases nW
    have nW0 : H W0 = none := s1.free nW
    have hL2 := s2 _ _ hL1
    have s02 := s1.trans s2
    generalize upd H1 W0 (.lst []) = H2 at s2 hW hL2 s02 ⊢
    have st2 : StX m C g kd n es (fun x => x = L1 ∨ x = W0) H R H2 R := by
      refine ((StX.refl gr).alloc s02).wide (fun x z => z.elim) fun x z => ?_
      rcases z with rfl | rfl
      · exact ⟨fun r => gr.in_ r nL0, fun z => gr.kdn (z ▸ nL0), by rw [hL2]; exact fun z => nomatch z⟩
      · exact ⟨fun r => gr.in_ r nW0, fun z => gr.kdn (z ▸ nW0), by rw [hW]; exact fun z => nomatch z⟩
    have nX : ∀ x, H x ≠ none → ¬ (x = L1 ∨ x = W0) := fun x h z => h (z.elim (fun z => z ▸ nL0) fun z => z ▸ nW0)
    have hcn : H c ≠ none := by rw [hc]; exact fun z => nomatch z
    refine nx_ ?_
    refine ⟨_, rfl, ?_⟩
    refine nx_ ?_
    -- while
    refine ⟨fun mm σ' H' => ∃ (y6 y7 y8 y9 : Option V) (R' : Addr → Prop) (O : List Nat) (h : Option Nat), σ' = [some (.ref g), some (.ref c), some (nV p), some (.ref L1), some (.ref W0), some (hereV h), y6, y7, y8, y9] ∧ StX m C g kd n es (fun x => x = L1 ∨ x = W0) H R H' R' ∧ H' W0 = some (.lst (O.map nV)) ∧ H' L1 = some (.lst (heatL n (fun v => decide (v ∈ O)) (hO es O))) ∧ BurnH n es cs p O h ∧ mm = n + 1 - O.length,
      ⟨_, _, _, _, _, R, [], some p, rfl, st2, hW, ?_, ⟨.inl ⟨rfl, rfl⟩, List.nodup_nil, fun v z => (nomatch z), fun x e => ⟨(Option.some.inj e) ▸ hp, fun z => nomatch z⟩, fun k _ z => absurd z (Nat.not_lt_zero _)⟩, rfl⟩, ?_⟩
    · rw [hL2]; rfl
    rintro mm σ' H4 ⟨y6, y7, y8, y9, R4, O, h, rfl, st4, hW4, hL4, bh, em⟩
    have lO : O.length ≤ n := nd_len bh.nd bh.lt
    cases h with
    | none =>
      refine ⟨_, rfl, rfl, _, rfl, ?_⟩
      rw [decide_eq_true (show hereV none = V.non from rfl)]
      exact iteF ⟨_, rfl, q H4 R4 W0 O (st4.drop fun x z => z.elim (fun z => z ▸ nL0) fun z => z ▸ nW0) nW0 (st4.own W0 (.inr rfl)).1 hW4 bh.done⟩
    | some x =>
      obtain ⟨hx, hxO⟩ := bh.hn x rfl
      refine ⟨_, rfl, rfl, _, rfl, ?_⟩
      rw [decide_eq_false (show ¬ hereV (some x) = V.non from fun z => nomatch z)]
      refine iteT ?_
      refine ⟨fun σ' H5 => ∃ m', m' < mm ∧ ∃ (y6 y7 y8 y9 : Option V) (R' : Addr → Prop) (O : List Nat) (h : Option Nat), σ' = [some (.ref g), some (.ref c), some (nV p), some (.ref L1), some (.ref W0), some (hereV h), y6, y7, y8, y9] ∧ StX m C g kd n es (fun x => x = L1 ∨ x = W0) H R H5 R' ∧ H5 W0 = some (.lst (O.map nV)) ∧ H5 L1 = some (.lst (heatL n (fun v => decide (v ∈ O)) (hO es O))) ∧ BurnH n es cs p O h ∧ m' = n + 1 - O.length, fun _ _ h => h, ?_⟩
      have nkx : hereV (some x) = nV x := rfl
      rw [nkx]
      -- order.append(here)
      refine ⟨_, rfl, .inl ⟨rfl, _, SqL.of hW4⟩, _, rfl, W0, _, _, rfl, rfl, hW4, size_lt (by rw [List.length_map]; omega), ?_⟩
      have eO : O.map nV ++ [nV x] = (O ++ [x]).map nV := by rw [List.map_append]; rfl
      rw [eO]
      have st5 : StX m C g kd n es (fun x => x = L1 ∨ x = W0) H R (upd H4 W0 (.lst ((O ++ [x]).map nV))) R4 := st4.set (.inr rfl)
      have hW5 : (upd H4 W0 (.lst ((O ++ [x]).map nV))) W0 = some (.lst ((O ++ [x]).map nV)) := upd_same
      have hL5 : (upd H4 W0 (.lst ((O ++ [x]).map nV))) L1 = some (.lst (heatL n (fun v => decide (v ∈ O)) (hO es O))) := by rw [upd_ne nWL.symm]; exact hL4
      generalize upd H4 W0 (.lst ((O ++ [x]).map nV)) = H5 at st5 hW5 hL5 ⊢
      refine nx_ ?_
      -- heat[here] = None
      refine ⟨_, rfl, _, rfl, L1, _, _, x, rfl, rfl, hL5, Evl.ixN_nat (by rw [heatL_len]; exact hx), ?_⟩
      have hmem : ∀ v, decide (v ∈ O ++ [x]) = if v = x then true else decide (v ∈ O) := fun v => by
        by_cases e : v = x
        · rw [if_pos e, e]; exact decide_eq_true (List.mem_append.mpr (.inr (List.mem_singleton.mpr rfl)))
        · rw [if_neg e]
          exact decide_eq_decide.mpr (by simp [e])
      rw [heatL_set (S' := fun v => decide (v ∈ O ++ [x])) (h' := hO es O) fun v hv => by
        unfold heatV
        show _ = if decide (v ∈ O ++ [x]) = true then V.non else V.int (hO es O v)
        rw [hmem]
        by_cases e : v = x
        · rw [if_pos e, if_pos e, if_pos rfl]
        · rw [if_neg e, if_neg e]]
      have st6 : StX m C g kd n es (fun x => x = L1 ∨ x = W0) H R (upd H5 L1 (.lst (heatL n (fun v => decide (v ∈ O ++ [x])) (hO es O)))) R4 := st5.set (.inl rfl)
      have hL6 : (upd H5 L1 (.lst (heatL n (fun v => decide (v ∈ O ++ [x])) (hO es O)))) L1 = some (.lst (heatL n (fun v => decide (v ∈ O ++ [x])) (hO es O))) := upd_same
      have hW6 : (upd H5 L1 (.lst (heatL n (fun v => decide (v ∈ O ++ [x])) (hO es O)))) W0 = some (.lst ((O ++ [x]).map nV)) := by rw [upd_ne nWL]; exact hW5
      generalize upd H5 L1 (.lst (heatL n (fun v => decide (v ∈ O ++ [x])) (hO es O))) = H6 at st6 hL6 hW6 ⊢
      refine nx_ ?_
      -- the others grow warm
      refine ⟨_, rfl, g, kd, R4, n, es, rfl, st6.gr, fun H7 R7 v b7 gr7 up7 fr7 bes => ?_⟩
      have st7 := st6.call (stp_of b7 gr7 up7 fr7)
      obtain ⟨LB, ls, rfl, rLB, hLB, lls, hls⟩ := bes
      have hL7 := b7 _ _ (st6.own L1 (.inl rfl)).2.1 hL6
      have hW7 := b7 _ _ (st6.own W0 (.inr rfl)).2.1 hW6
      have ip : x < ls.length := by omega
      obtain ⟨ra, ws, l, k1, rt, k2, k3⟩ := hls x _ (List.getElem?_eq_getElem ip)
      have nrX : ∀ y, R7 y → ¬ (y = L1 ∨ y = W0) := fun y r z => (st7.own y z).1 r
      refine ⟨_, rfl, LB, _, x, .ref ls[x], rfl, rfl, SqL.of hLB, atI_nat (rows_get ip), ls[x], rfl, ⟨_, SqL.of k1⟩, ?_⟩
      refine for_list (K := K) (a := ls[x]) (xs := ws) (fun k σ H' => ∃ (y6 y7 : Option V), σ = [some (.ref g), some (.ref c), some (nV p), some (.ref L1), some (.ref W0), some (nV x), y6, y7, y8, y9] ∧ StX m C g kd n es (fun x => x = L1 ∨ x = W0) H R H' R7 ∧ But (fun x => x = L1 ∨ x = W0) H7 H' ∧ H' W0 = some (.lst ((O ++ [x]).map nV)) ∧ H' L1 = some (.lst (heatL n (fun v => decide (v ∈ O ++ [x])) fun v => hO es O v + lineH (l.take k) v))) ?_ ?_ ?_ ?_
      · refine ⟨_, _, rfl, st7, But.refl, hW7, ?_⟩
        rw [hL7]
        congr 2
        refine heatL_congr fun v _ => ?_
        unfold heatV
        show _ = if _ then V.non else V.int (hO es O v + 0)
        rw [Int.add_zero]
      · rintro k σ H' _ ⟨_, _, _, _, bt, _⟩
        exact SqL.of (bt _ _ (nrX _ ra) k1)
      · rintro k y σ H' hy ⟨y6, y7, rfl, sx, bt, hW', hL'⟩
        have hk : k < l.length := by rw [← k2.len]; exact (List.getElem?_eq_some_iff.mp hy).1
        obtain ⟨t, e1, e2⟩ := k2.get hk
        rw [hy] at e1
        obtain rfl := Option.some.inj e1
        have ht := bt _ _ (nrX _ (rt t (List.mem_of_getElem? hy))) e2
        have hm : l[k].2 = mult es x l[k].1 ∧ 0 < mult es x l[k].1 := (k3.2 l[k].1 l[k].2).mp (List.getElem_mem hk)
        have hu : l[k].1 < n := mult_pos edg hm.2
        have hke : l[k]? = some l[k] := List.getElem?_eq_getElem hk
        generalize l[k] = e at ht hu hke
        obtain ⟨u, cc⟩ := e
        have et : ∀ v, lineH (l.take (k + 1)) v = lineH (l.take k) v + if u = v then (cc : Int) else 0 := fun v => by
          rw [List.take_add_one, hke]
          exact lineH_snoc
        refine ⟨t, _, rfl, SqT.of ht, rfl, _, _, rfl, _, _, rfl, rfl, ?_⟩
        refine ⟨_, rfl, _, rfl, _, _, u, _, rfl, rfl, SqL.of hL', atI_nat (heatL_get hu), rfl, _, rfl, ?_⟩
        by_cases hS : u ∈ O ++ [x]
        · have ev : heatV (fun v => decide (v ∈ O ++ [x])) (fun v => hO es O v + lineH (l.take k) v) u = .non := if_pos (decide_eq_true hS)
          rw [ev]
          refine iteF ⟨_, _, rfl, sx, bt, hW', ?_⟩
          rw [hL']
          congr 2
          refine heatL_congr fun v _ => ?_
          unfold heatV
          show _ = if _ then V.non else V.int (hO es O v + lineH (l.take (k + 1)) v)
          rw [et]
          by_cases d : u = v
          · subst d
            rw [if_pos (decide_eq_true hS), if_pos (decide_eq_true hS)]
          · rw [if_neg d, Int.add_zero]
        · have ev : heatV (fun v => decide (v ∈ O ++ [x])) (fun v => hO es O v + lineH (l.take k) v) u = .int (hO es O u + lineH (l.take k) u) := if_neg (show ¬ decide (u ∈ O ++ [x]) = true by rw [decide_eq_false hS]; exact Bool.false_ne_true)
          rw [ev]
          refine iteT ?_
          have gu : (heatL n (fun v => decide (v ∈ O ++ [x])) fun v => hO es O v + lineH (l.take k) v)[u]? = some (.int (hO es O u + lineH (l.take k) u)) := by rw [heatL_get hu, ev]
          refine ⟨_, rfl, _, rfl, _, _, u, _, rfl, rfl, SqL.of hL', atI_nat gu, _, rfl, _, _, rfl, rfl, ?_⟩
          refine ⟨_, rfl, _, rfl, L1, _, _, u, rfl, rfl, hL', Evl.ixN_nat (by rw [heatL_len]; exact hu), ?_⟩
          rw [heatL_set (S' := fun v => decide (v ∈ O ++ [x])) (h' := fun v => hO es O v + lineH (l.take (k + 1)) v) fun v hv => by
            unfold heatV
            show _ = if decide (v ∈ O ++ [x]) = true then V.non else V.int (hO es O v + lineH (l.take (k + 1)) v)
            rw [et]
            by_cases d : v = u
            · subst d
              rw [if_pos rfl, if_pos rfl, if_neg (show ¬ decide (v ∈ O ++ [x]) = true by rw [decide_eq_false hS]; exact Bool.false_ne_true)]
              show V.int (_ + (cc : Int)) = _
              rw [Int.add_assoc]
            · rw [if_neg d, if_neg (fun z : u = v => d z.symm), Int.add_zero]]
          exact ⟨_, _, rfl, sx.set (.inl rfl), bt.trans (But.mut (.inl rfl)), by rw [upd_ne nWL]; exact hW', upd_same⟩
      · rintro σ H8 ⟨y6, y7, rfl, st8, bt, hW8, hL8⟩
        rw [k2.len, List.take_length] at hL8
        have hL8 : H8 L1 = some (.lst (heatL n (fun v => decide (v ∈ O ++ [x])) (hO es (O ++ [x])))) := by
          rw [hL8]
          congr 2
          refine heatL_congr fun v hv => ?_
          unfold heatV
          show (if _ then V.non else V.int (hO es O v + lineH l v)) = _
          rw [lineH_end k3 (fun u hu => mult_pos edg hu) hv, hO_snoc]
        have hc8 : H8 c = some (.lst (rowF n cs)) := st8.lst gr (nX c hcn) hc
        refine nx_ ?_
        -- next_ones
        refine ⟨_, rfl, L1, _, rfl, SqL.of hL8, fun N0 nN => ?_⟩
        refine lc_it (walk_enum (K := K) (a := L1) (xs := heatL n (fun v => decide (v ∈ O ++ [x])) (hO es (O ++ [x])))) (fun i H9 => Same H8 H9 ∧ H9 N0 = some (.lst (((List.range i).filter (isNextB es cs (O ++ [x]))).map nV))) ⟨same_upd nN, upd_same⟩ (fun i H9 _ p => SqL.of (p.1 _ _ hL8)) ?_ ?_
        · rintro i v H9 H10 hi ⟨s9, hN⟩ ⟨T, a, b, rfl, nT, rfl, ha, hb⟩
          obtain rfl : V.int (i : Nat) = a := Option.some.inj ha
          have hi : i < n := by rw [heatL_len] at hi; exact hi
          have hb : (heatL n (fun v => decide (v ∈ O ++ [x])) (hO es (O ++ [x])))[i]? = some b := hb
          rw [heatL_get hi] at hb
          obtain rfl := Option.some.inj hb
          have sT := same_upd (o := HO.tup [.int (i : Nat), heatV (fun v => decide (v ∈ O ++ [x])) (hO es (O ++ [x])) i]) nT
          have ef : (List.range (i + 1)).filter (isNextB es cs (O ++ [x])) = (List.range i).filter (isNextB es cs (O ++ [x])) ++ if isNextB es cs (O ++ [x]) i = true then [i] else [] := by
            rw [List.range_succ, List.filter_append, List.filter_cons]; rfl
          refine ⟨T, _, rfl, SqT.of upd_same, rfl, _, _, rfl, _, _, rfl, rfl, rfl, ?_⟩
          by_cases hS : i ∈ O ++ [x]
          · have ev : heatV (fun v => decide (v ∈ O ++ [x])) (hO es (O ++ [x])) i = .non := if_pos (decide_eq_true hS)
            have nf : isNextB es cs (O ++ [x]) i = false := by unfold isNextB; rw [decide_eq_true hS]; rfl
            refine ⟨_, rfl, rfl, _, rfl, ?_⟩
            rw [decide_eq_true ev]
            refine iteF ⟨s9.trans sT, ?_⟩
            rw [ef, nf, if_neg Bool.false_ne_true, List.append_nil]
            exact sT _ _ hN
          · have ev : heatV (fun v => decide (v ∈ O ++ [x])) (hO es (O ++ [x])) i = .int (hO es (O ++ [x]) i) := if_neg (show ¬ decide (i ∈ O ++ [x]) = true by rw [decide_eq_false hS]; exact Bool.false_ne_true)
            refine ⟨_, rfl, rfl, _, rfl, ?_⟩
            rw [decide_eq_false (fun z => by rw [ev] at z; cases z)]
            refine iteT ⟨_, rfl, _, rfl, _, rfl, _, _, i, _, rfl, rfl, SqL.of ((s9.trans sT) _ _ hc8), atI_nat (rowF_get hi), _, _, ev, rfl, _, rfl, ifD (fun hot => ?_) (fun cold => ?_)⟩
            · have nf : isNextB es cs (O ++ [x]) i = true := by unfold isNextB; rw [decide_eq_false hS, decide_eq_true hot]; rfl
              refine ⟨_, rfl, _, sT _ _ hN, size_lt ?_, same_mut (s9.trans sT) nN, ?_⟩
              · rw [List.length_map]
                have := List.length_filter_le (isNextB es cs (O ++ [x])) (List.range i)
                rw [List.length_range] at this
                omega
              · rw [upd_same, ef, nf, if_pos rfl, List.map_append]; rfl
            · have nf : isNextB es cs (O ++ [x]) i = false := by unfold isNextB; rw [decide_eq_false hS, decide_eq_false cold]; rfl
              refine ⟨s9.trans sT, ?_⟩
              rw [ef, nf, if_neg Bool.false_ne_true, List.append_nil]
              exact sT _ _ hN
        rintro H9 ⟨s9, hN⟩
        rw [heatL_len] at hN
        have st9 := st8.alloc s9
        have enext : nextB n es cs (O ++ [x]) = ((List.range n).filter (isNextB es cs (O ++ [x]))).head? := List.head?_filter.symm
        have bstep := bh.step
        have lm : n + 1 - (O ++ [x]).length < mm := by rw [em, List.length_append]; show n + 1 - (O.length + 1) < _; have := nd_len bstep.nd bstep.lt; rw [List.length_append] at this; have this : O.length + 1 ≤ n := this; omega
        refine nx_ ?_
        -- here
        refine ⟨_, rfl, _, .inl ⟨_, SqL.of hN, rfl⟩, ?_⟩
        cases hl : (List.range n).filter (isNextB es cs (O ++ [x])) with
        | nil =>
          rw [hl] at enext
          rw [enext] at bstep
          refine iteF ?_
          exact ⟨_, lm, _, _, _, _, R7, O ++ [x], none, rfl, st9, s9 _ _ hW8, s9 _ _ hL8, bstep, rfl⟩
        | cons y0 yr =>
          rw [hl] at enext
          rw [enext] at bstep
          refine iteT ?_
          refine ⟨_, rfl, N0, _, 0, _, rfl, rfl, SqL.of hN, atI_nat (j := 0) (by rw [hl]; rfl), ?_⟩
          exact ⟨_, lm, _, _, _, _, R7, O ++ [x], some y0, rfl, st9, s9 _ _ hW8, s9 _ _ hL8, bstep, rfl⟩
def spBurn (m : Memo) (K : PySem.W.Frag) (C : Addr) : Sp := fun vs H Q _ => ∃ (g kd a : Addr) (R : Addr → Prop) (n : Nat) (es : List Pr) (cs : Nat → Int) (p : Nat), vs = [.ref g, .ref a, nV p] ∧ Gr m H C g kd R n es ∧ (SqL K H a (rowF n cs) ∨ SqT K H a (rowF n cs)) ∧ p < n ∧
  ∀ (H' : Hp) (R' : Addr → Prop) (T X Y : Addr) (O : List Nat), Stp m C g kd n es H R H' R' → H' T = some (.tup [.ref X, .ref Y]) → H' X = some (.tup (O.map nV)) → H' Y = some (.tup (((List.range n).filter fun v => !decide (v ∈ O)).map nV)) → BurnO n es cs p O → Q (.ref T) H'
theorem ok_burning {m : Memo} (D : DefAt K mg "burning" "burning" s_burning) (B : Bt mg) (G : GraphC K C) (h_told_sum : Has P w K mg base CX0 2 "told_sum" p_told_sum (spTellF m K C)) (h_check_place : Has P w K mg base CX0 2 "check_place" p_check_place (spChk m C)) (h_burnt_order : Has P w K mg base CX0 2 "burnt_order" p_burnt_order (spBO m C)) : Has P w K mg base CX0 3 "burning" p_burning (spBurn m K C) := by
  refine has_of D sc_burning (fun _ _ _ _ _ _ us hl => match us, hl with | [_, _, _], _ => rfl) (fun vs H Q E h => ?_) (fun f cdv A outer s H vs Q E hr h => ?_)
  · obtain ⟨g, kd, a, R, n, es, cs, p, rfl, _⟩ := h
    rfl
  · obtain ⟨g, kd, a, R, n, es, cs, p, rfl, gr, hc, hp, q⟩ := h
    refine ⟨_, (pss_cons (ps_set (i := 3) sc_burning.nd rfl (.inl rfl) (pe_h h_told_sum hr pass0 (pa_cons (pv 0) (pa_cons (pv 1) pa_nil))))
  (pss_cons (ps_expr (pe_h h_check_place hr pass0 (pa_cons (pv 0) (pa_cons (pv 2) pa_nil))))
  (pss_cons (ps_set (i := 4) sc_burning.nd rfl (.inr rfl) (pe_h h_burnt_order hr pass0 (pa_cons (pv 0) (pa_cons (pv 3) (pa_cons (pv 2) pa_nil)))))
  (pss_one (ps_ret (pe_tup (pa_cons (pe_callTy (tupK (K := K) rfl) rfl B.tuple (by decide +kernel) (pa_cons (pv 4) pa_nil)) (pa_cons (pe_callTy (tupK (K := K) rfl) rfl B.tuple (by decide +kernel) (pa_cons (pe_lc (own := [("at", 5)]) (g := gName 5) (tt := _) rfl sc_burning.nd (pi_range1 rfl B.range (pa_cons (fldK (K := K) rfl (pv 0) rfl) pa_nil)) (blkOk_by (N := n_burning) (sc := defScope s_burning) (by decide +kernel)) (fun _ _ _ _ _ => (pg_name (i := 5) sc_burning.nd rfl (.inl rfl))) (fun _ _ _ _ _ => (pts_one (pt_cmpR (ninK (K := K) rfl) (pv 5) (pv 4) (by rfl)))) (fun _ _ _ _ _ => (pv 5))) pa_nil)) pa_nil)))))))), ?_⟩
    have hn64 : n ≤ 64 := gr.2.2.2.1
    obtain ⟨⟨dx, eT, vs, hg, _, _, rg, _, _⟩, _⟩ := id gr
    refine ⟨_, rfl, _, rfl, g, kd, a, R, n, es, cs, rfl, gr, hc, fun H1 l s1 nl hl => ?_⟩
    have st1 := (StX.refl gr).alloc s1
    refine ⟨_, rfl, _, rfl, g, kd, R, n, es, p, rfl, st1.gr, hp, ?_⟩
    refine ⟨_, rfl, _, rfl, _, rfl, g, kd, l, R, n, es, cs, p, rfl, st1.gr, hl, hp, fun H2 R2 W O c2 nW nRW hW bo => ?_⟩
    have st2 := st1.call c2
    have lO : O.length ≤ n := nd_len bo.nd bo.lt
    have hg2 := st2.but _ _ (ne_of hg gr.kdo.choose_spec ins_dK) (fun z => z) hg
    refine nx_ ?_
    refine ⟨_, rfl, W, _, rfl, .inl ⟨SqL.of hW, fun l1 nl1 => ?_⟩⟩
    have a1 := same_upd (o := HO.tup (O.map nV)) nl1
    have hl1 : (upd H2 l1 (.tup (O.map nV))) l1 = some (.tup (O.map nV)) := upd_same
    generalize upd H2 l1 (.tup (O.map nV)) = H3 at a1 hl1 ⊢
    refine ⟨_, rfl, g, C, dx, _, _, rfl, a1 _ _ hg2, G.cls, G.n, rfl, n, rfl, by omega, by omega, fun F nF => ?_⟩
    refine lc_range (lo := 0) (n := n) (fun i H4 => Same H3 H4 ∧ H4 F = some (.lst (((List.range i).filter fun v => !decide (v ∈ O)).map nV))) ⟨same_upd nF, upd_same⟩ ?_ ?_
    · rintro i H4 hi ⟨s4, hF⟩
      rw [zint0]
      have ef : (List.range (i + 1)).filter (fun v => !decide (v ∈ O)) = (List.range i).filter (fun v => !decide (v ∈ O)) ++ if i ∈ O then [] else [i] := by
        rw [List.range_succ, List.filter_append, List.filter_cons]
        by_cases e : i ∈ O
        · rw [if_neg (by rw [decide_eq_true e]; exact fun z => nomatch z), if_pos e]; rfl
        · rw [if_pos (by rw [decide_eq_false e]; rfl), if_neg e]; rfl
      refine ⟨rfl, ?_⟩
      refine ⟨_, rfl, _, rfl, W, _, rfl, .inl (SqL.of ((a1.trans s4) _ _ hW)), rfl, flat_nV O, _, rfl, ?_⟩
      show ite ((!(inV (nV i) (O.map nV))) = true) _ _
      rw [inV_dec]
      by_cases e : i ∈ O
      · rw [decide_eq_true e]
        refine iteF ⟨s4, ?_⟩
        rw [ef, if_pos e, List.append_nil]
        exact hF
      · rw [decide_eq_false e]
        refine iteT ⟨_, rfl, _, hF, size_lt ?_, same_mut s4 nF, ?_⟩
        · rw [List.length_map]
          have := List.length_filter_le (fun v => !decide (v ∈ O)) (List.range i)
          rw [List.length_range] at this
          omega
        · rw [upd_same, ef, if_neg e, List.map_append]; rfl
    rintro H4 ⟨s4, hF⟩
    refine tNil_ ?_
    refine ⟨F, _, rfl, .inl ⟨SqL.of hF, fun l2 nl2 => ?_⟩⟩
    have a2 := same_upd (o := HO.tup (((List.range n).filter fun v => !decide (v ∈ O)).map nV)) nl2
    refine ⟨by show 2 ≤ sizeLine; decide, fun T nT => ?_⟩
    have a3 := same_upd (o := HO.tup [.ref l1, .ref l2]) nT
    exact q _ R2 T l1 l2 O (st2.alloc (a1.trans (s4.trans (a2.trans a3)))) upd_same (a3 _ _ (a2 _ _ (s4 _ _ hl1))) (a3 _ _ upd_same) bo
end
end G3

set_option Elab.async false
set_option linter.all false
set_option maxRecDepth 100000
set_option maxHeartbeats 4000000
namespace G3
open PySem PySem.Spec PyProof.Rows L2
/-- an item of a list or of a tuple -/
def rIxR (K : PySem.W.Frag) : R2 := fun x y H Q => ∃ p xs i v, x = .ref p ∧ y = .int i ∧ (SqL K H p xs ∨ SqT K H p xs) ∧ atI xs i = some v ∧ Q v H
theorem ixR {X : Cx} {K : PySem.W.Frag} (h : X.K = K) : IxR X (rIxR K) := by
  subst h
  intro value slice pins s σ H x y v u Q I rx ry hh hs
  obtain ⟨p, xs, i, z, e1, e2, hq, he, q⟩ := hh
  rcases hq with hq | hq
  · exact ix_list value slice pins s σ H x y v u Q I rx ry ⟨p, xs, i, z, e1, e2, hq, he, q⟩ hs
  · exact ix_tup value slice pins s σ H x y v u Q I rx ry ⟨p, xs, i, z, e1, e2, hq, he, q⟩ hs
/-- a row of numbers, kept as it is -/
def RowAt (H : Hp) (p : Addr) (ns : List Int) : Prop := H p = some (.lst (ns.map V.int)) ∨ H p = some (.tup (ns.map V.int))
theorem RowAt.same {H H' : Hp} {p : Addr} {ns : List Int} (h : RowAt H p ns) (e : Same H H') : RowAt H' p ns := h.imp (e _ _) (e _ _)
theorem RowAt.but {H H' : Hp} {p kd : Addr} {ns : List Int} {kvs : List (L2.Key × V)} (h : RowAt H p ns) (b : But (· = kd) H H') (hk : H kd = some (.dK kvs)) : RowAt H' p ns := h.imp (b.lst hk) (b.tup hk)
theorem RowAt.sq {K : PySem.W.Frag} {H : Hp} {p : Addr} {ns : List Int} (h : RowAt H p ns) : SqL K H p (ns.map V.int) ∨ SqT K H p (ns.map V.int) := h.imp SqL.of SqT.of
section
variable {P : Program} {w : World} {K : PySem.W.Frag} {mg : Str → Option Value} {base : Heap} {C : Addr}
def spSentR (m : Memo) (C : Addr) : Sp := fun vs H Q _ => ∃ (g kd q0 : Addr) (R : Addr → Prop) (n : Nat) (es : List Pr) (ns : List Int), vs = [.ref g, .ref q0] ∧ Gr m H C g kd R n es ∧ RowAt H q0 ns ∧ ns.length = n ∧
  ∀ (H' : Hp) (R' : Addr → Prop) (L : Addr), But (· = kd) H H' → Gr m H' C g kd R' n es → (∀ x, R x → R' x) → (∀ x, R' x → R x ∨ H x = none) → H L = none → ¬ R' L → H' L = some (.lst (((List.range n).map (sentOf n es fun i => ns.getD i 0)).map V.int)) → Q (.ref L) H'
theorem ok_sent_byR {m : Memo} (D : DefAt K mg "sent_by" "sent_by" s_sent_by) (B : Bt mg) (h_beside : Has P w K mg base CX0 1 "beside" p_beside (spBeside m C)) : Has P w K mg base CX0 2 "sent_by" p_sent_by (spSentR m C) := by
  refine has_of D sc_sent_by (fun _ _ _ _ _ _ us hl => match us, hl with | [_, _], _ => rfl) (fun vs H Q E h => ?_) (fun f cdv A outer s H vs Q E hr h => ?_)
  · obtain ⟨g, kd, q0, R, n, es, ns, rfl, _⟩ := h
    rfl
  · obtain ⟨g, kd, q0, R, n, es, ns, rfl, gr, hq, hns, q⟩ := h
    refine ⟨_, (pss_cons (ps_set (i := 2) sc_sent_by.nd rfl (.inl rfl) (pe_lst pa_nil))
  (pss_cons (ps_for PassesOwn.never rfl (pi_enum rfl B.enumerate (pa_cons (pe_h h_beside hr pass0 (pa_cons (pv 0) pa_nil)) pa_nil)) (pgT (K := K) (n := 2) rfl rfl (pgs_cons (pg_name (i := 3) sc_sent_by.nd rfl (.inr rfl)) (pgs_cons (pg_name (i := 4) sc_sent_by.nd rfl (.inl rfl)) pgs_nil))) (pss_one (ps_expr (pe_bm PySem.F.plainAttrs_list PySem.F.slot_list_append PySem.F.type_list_append mt_append (pv 2) (pa_cons (pe_callB (sumK (K := K) rfl rfl) rfl B.sum (by decide +kernel) (pa_cons (pe_lc (own := [("other", 5), ("many", 6)]) (g := _) (tt := tYes) rfl sc_sent_by.nd (piL (K := K) rfl (pv 4)) (blkOk_by (N := n_sent_by) (sc := defScope s_sent_by) (by decide +kernel)) (fun _ _ _ _ _ => (pgT (K := K) (n := 2) rfl rfl (pgs_cons (pg_name (i := 5) sc_sent_by.nd rfl (.inl rfl)) (pgs_cons (pg_name (i := 6) sc_sent_by.nd rfl (.inl rfl)) pgs_nil)))) (fun _ _ _ _ _ => pts_nil) (fun _ _ _ _ _ => (pe_op op_mul (pv 6) (pe_op op_sub (pe_ix (ixR (K := K) rfl) (pv 1) (pv 3) (fun _ _ => rfl)) (pe_ix (ixR (K := K) rfl) (pv 1) (pv 5) (fun _ _ => rfl)))))) pa_nil)) pa_nil)))))
  (pss_one (ps_ret (pv 2))))), ?_⟩
    have edg := gr.edg
    have hn64 : n ≤ 64 := gr.2.2.2.1
    have he4 := gr.2.2.2.2.1
    obtain ⟨_, _, _, _, _, _, hR, kvs, hkd, _⟩ := id gr
    refine ⟨by show 0 ≤ sizeLine; decide, fun F0 nF => ?_⟩
    have s1 : Same H (upd H F0 (.lst [])) := same_upd nF
    have hF : (upd H F0 (.lst [])) F0 = some (.lst []) := upd_same
    generalize upd H F0 (.lst []) = H1 at s1 hF
    have gr1 := gr.same s1
    refine ⟨_, rfl, g, kd, R, n, es, rfl, gr1, fun H2 R' v b2 gr2 hr1 hr2 bes => ?_⟩
    obtain ⟨LB, as, rfl, rLB, hLB, las, hl⟩ := bes
    have nRF : ¬ R' F0 := fun r => (hr2 _ r).elim (fun r => (hR _ r).1 nF) fun z => by rw [hF] at z; cases z
    have hF2 := b2.lst (s1 _ _ hkd) hF
    have nkF : F0 ≠ kd := ne_of hF (s1 _ _ hkd) dict_ne.1
    refine ⟨LB, _, rfl, SqL.of hLB, ?_⟩
    have hq2 := (hq.same s1).but b2 (s1 _ _ hkd)
    have notF : ∀ x o, H x = some o → ¬ x = F0 := fun x o e z => by rw [z, nF] at e; cases e
    have nqF : ¬ q0 = F0 := hq.elim (notF _ _) (notF _ _)
    refine for_enL (K := K) (a := LB) (xs := as.map V.ref) (fun i σ H' => ∃ (y z : Option V), σ = [some (.ref g), some (.ref q0), some (.ref F0), y, z, none, none] ∧ But (· = F0) H2 H' ∧ H' F0 = some (.lst (((List.range i).map (sentOf n es fun i => ns.getD i 0)).map V.int))) ⟨_, _, rfl, But.refl, hF2⟩ ?_ ?_ ?_
    · rintro i σ H' hi ⟨y, z, rfl, bt, hF'⟩
      exact SqL.of (bt _ _ (fun z => nRF (z ▸ rLB)) hLB)
    · rintro i x T σ H' hx ⟨y, z, rfl, bt, hF'⟩ nT
      have hi : i < as.length := by have := (List.getElem?_eq_some_iff.mp hx).1; rwa [List.length_map] at this
      rw [rows_get hi] at hx
      obtain rfl := Option.some.inj hx
      obtain ⟨ra, ws, l, k1, rt, k2, k3⟩ := hl i _ (List.getElem?_eq_getElem hi)
      refine ⟨T, _, rfl, SqT.of upd_same, rfl, _, _, rfl, _, _, rfl, rfl, ?_⟩
      have sT : Same H' (upd H' T (.tup [.int (i : Nat), .ref as[i]])) := same_upd nT
      have b4 : But (· = F0) H2 (upd H' T (.tup [.int (i : Nat), .ref as[i]])) := bt.trans (Same.but sT)
      have hF4 := sT _ _ hF'
      generalize upd H' T (.tup [.int (i : Nat), .ref as[i]]) = H4 at b4 hF4
      have nra : ∀ x, R' x → ¬ x = F0 := fun x r z => nRF (z ▸ r)
      have ha4 := b4 _ _ (nra _ ra) k1
      have hws4 : Prs H4 ws l := k2.stay (fun x o r e => b4 _ _ (nra _ r) e) rt
      have hq4 : RowAt H4 q0 ns := hq2.imp (b4 _ _ nqF) (b4 _ _ nqF)
      have lw := hws4.len
      have ll := line_le k3 fun u hu => mult_pos edg hu
      refine ⟨_, rfl, .inl ⟨rfl, _, SqL.of hF4⟩, ?_⟩
      refine ⟨_, rfl, as[i], rfl, ⟨_, SqL.of ha4⟩, fun L2 nL2 => ?_⟩
      refine lc_list (K := K) (a := as[i]) (xs := ws) (fun j H3 => Same H4 H3 ∧ H3 L2 = some (.lst (((l.take j).map fun e => (e.2 : Int) * (ns.getD i 0 - ns.getD e.1 0)).map V.int))) ⟨same_upd nL2, upd_same⟩ (fun j H3 _ p => SqL.of (p.1 _ _ ha4)) ?_ ?_
      · rintro j x H3 hx ⟨sm3, hL3⟩
        have hj : j < l.length := by rw [← lw]; exact (List.getElem?_eq_some_iff.mp hx).1
        obtain ⟨t, e1, e2⟩ := hws4.get hj
        rw [hx] at e1
        obtain rfl := Option.some.inj e1
        have hm : l[j].2 = mult es i l[j].1 ∧ 0 < mult es i l[j].1 := (k3.2 l[j].1 l[j].2).mp (List.getElem_mem hj)
        have hu : l[j].1 < n := mult_pos edg hm.2
        have hml : l[j].2 ≤ 2 * 400 := by rw [hm.1]; exact Nat.le_trans mult_le (by omega)
        refine ⟨t, _, rfl, SqT.of (sm3 _ _ e2), rfl, _, _, rfl, _, _, rfl, rfl, rfl, yes_ ?_⟩
        have gi : ∀ i : Nat, i < n → (ns.map V.int)[i]? = some (.int (ns.getD i 0)) := fun i hi => by
          have : i < ns.length := by omega
          rw [getMap this, List.getD_eq_getElem?_getD, List.getElem?_eq_getElem this]; rfl
        refine ⟨_, rfl, _, rfl, _, rfl, _, _, i, _, rfl, rfl, (hq4.same sm3).sq, atI_nat (gi i (by omega)), ?_⟩
        refine ⟨_, rfl, _, rfl, _, _, l[j].1, _, rfl, rfl, (hq4.same sm3).sq, atI_nat (gi _ hu), ?_⟩
        refine ⟨_, _, rfl, rfl, _, _, rfl, rfl, .inl ⟨by omega, by omega⟩, _, hL3, size_lt (by rw [List.length_map, List.length_map, List.length_take]; omega), same_mut sm3 nL2, ?_⟩
        rw [upd_same, List.take_add_one, List.getElem?_eq_getElem hj, List.map_append, List.map_append]; rfl
      · rintro H3 ⟨sm3, hL3⟩
        rw [lw, List.take_length] at hL3
        refine ⟨L2, _, rfl, SqL.of hL3, ?_⟩
        rw [line_sum k3 (fun u hu => mult_pos edg hu) fun u => ns.getD i 0 - ns.getD u 0]
        refine ⟨F0, _, _, rfl, rfl, sm3 _ _ hF4, size_lt (by rw [List.length_map, List.length_map, List.length_range]; omega), ?_⟩
        refine ⟨_, _, rfl, (b4.trans (Same.but sm3)).trans (But.mut (X := (· = F0)) rfl), ?_⟩
        rw [upd_same, List.range_succ, List.map_append, List.map_append]; rfl
    · rintro σ H' ⟨y, z, rfl, bt, hF'⟩
      rw [List.length_map, las] at hF'
      refine ⟨_, rfl, q _ R' _ ?_ (gr2.but bt fun x hx => by subst hx; exact ⟨nRF, nkF⟩) hr1 (fun x r => (hr2 x r).imp id s1.free) nF nRF hF'⟩
      intro b o nb e
      exact bt _ _ (notF _ _ e) (b2 _ _ nb (s1 _ _ e))
def spLedR (m : Memo) (C : Addr) : Sp := fun vs H Q _ => ∃ (g kd c0 q0 : Addr) (R : Addr → Prop) (n : Nat) (es : List Pr) (cs ns : List Int), vs = [.ref g, .ref c0, .ref q0] ∧ Gr m H C g kd R n es ∧ H c0 = some (.lst (cs.map V.int)) ∧ RowAt H q0 ns ∧ cs.length = n ∧ ns.length = n ∧
  ∀ (H' : Hp) (R' : Addr → Prop) (L : Addr), But (· = kd) H H' → Gr m H' C g kd R' n es → (∀ x, R x → R' x) → (∀ x, R' x → R x ∨ H x = none) → H L = none → ¬ R' L → H' L = some (.lst ((ledOf n es cs ns).map V.int)) → Q (.ref L) H'
theorem ok_ledR {m : Memo} (D : DefAt K mg "led" "led" s_led) (B : Bt mg) (h_sent_by : Has P w K mg base CX0 2 "sent_by" p_sent_by (spSentR m C)) : Has P w K mg base CX0 3 "led" p_led (spLedR m C) := by
  refine has_of D sc_led (fun _ _ _ _ _ _ us hl => match us, hl with | [_, _, _], _ => rfl) (fun vs H Q E h => ?_) (fun f cdv A outer s H vs Q E hr h => ?_)
  · obtain ⟨g, kd, c0, q0, R, n, es, cs, ns, rfl, _⟩ := h
    rfl
  · obtain ⟨g, kd, c0, q0, R, n, es, cs, ns, rfl, gr, hc, hq, hcs, hns, q⟩ := h
    refine ⟨_, (pss_one (ps_ret (pe_lc (own := [("many", 3), ("less", 4)]) (g := _) (tt := tYes) rfl sc_led.nd (pi_zip rfl B.zip (pa_cons (pv 1) (pa_cons (pe_h h_sent_by hr pass0 (pa_cons (pv 0) (pa_cons (pv 2) pa_nil))) pa_nil))) (blkOk_by (N := n_led) (sc := defScope s_led) (by decide +kernel)) (fun _ _ _ _ _ => (pgT (K := K) (n := 2) rfl rfl (pgs_cons (pg_name (i := 3) sc_led.nd rfl (.inl rfl)) (pgs_cons (pg_name (i := 4) sc_led.nd rfl (.inl rfl)) pgs_nil)))) (fun _ _ _ _ _ => pts_nil) (fun _ _ _ _ _ => (pe_op op_sub (pv 3) (pv 4)))))), ?_⟩
    have hn64 : n ≤ 64 := gr.2.2.2.1
    obtain ⟨_, _, _, _, _, _, hR, kvs, hkd, _⟩ := id gr
    refine ⟨_, rfl, _, rfl, _, rfl, g, kd, q0, R, n, es, ns, rfl, gr, hq, hns, fun H1 R' S b1 gr1 hr1 hr2 nS nRS hS => ?_⟩
    have hc1 := b1.lst hkd hc
    refine ⟨c0, S, _, _, rfl, SqL.of hc1, SqL.of hS, fun L nL => ?_⟩
    refine lc_it (walk_zip (K := K) (a := c0) (b := S) (xs := cs.map V.int) (ys := ((List.range n).map (sentOf n es fun i => ns.getD i 0)).map V.int) (n := n) (by simp [hcs])) (fun i H2 => Same H1 H2 ∧ H2 L = some (.lst (((ledOf n es cs ns).take i).map V.int))) ⟨same_upd nL, upd_same⟩ (fun i H2 _ p => ⟨SqL.of (p.1 _ _ hc1), SqL.of (p.1 _ _ hS)⟩) ?_ ?_
    · rintro i v H2 H3 hi ⟨sm, hL⟩ ⟨T, x, y, rfl, nT, rfl, hx, hy⟩
      have hx : (cs.map V.int)[i]? = some x := hx
      have hy : (((List.range n).map (sentOf n es fun i => ns.getD i 0)).map V.int)[i]? = some y := hy
      have hci : i < cs.length := by omega
      rw [getMap hci] at hx
      rw [List.getElem?_map, List.getElem?_map, List.getElem?_range hi] at hy
      obtain rfl := Option.some.inj hx
      obtain rfl := Option.some.inj hy
      have sT : Same H2 (upd H2 T (.tup [.int cs[i], .int (sentOf n es (fun i => ns.getD i 0) i)])) := same_upd nT
      refine ⟨T, _, rfl, SqT.of upd_same, rfl, _, _, rfl, _, _, rfl, rfl, rfl, yes_ ?_⟩
      refine ⟨_, rfl, _, rfl, _, _, rfl, rfl, _, sT _ _ hL, size_lt (by rw [List.length_map, List.length_take]; omega), same_mut (sm.trans sT) nL, ?_⟩
      have e : (ledOf n es cs ns)[i]? = some (cs[i] - sentOf n es (fun i => ns.getD i 0) i) := by
        unfold ledOf
        rw [List.getElem?_map, List.getElem?_range hi]
        show some (cs.getD i 0 - _) = _
        rw [List.getD_eq_getElem?_getD, List.getElem?_eq_getElem hci]; rfl
      rw [upd_same, List.take_add_one, e, List.map_append]; rfl
    · rintro H2 ⟨sm, hL⟩
      have e : (ledOf n es cs ns).take n = ledOf n es cs ns := List.take_of_length_le (by unfold ledOf; simp)
      rw [e] at hL
      exact q _ _ _ (b1.trans (Same.but sm)) (gr1.same sm) hr1 hr2 (gr1.free b1 nL) (fun r => (gr1.2.2.2.2.2.2.1 L r).1 nL) hL
end
end G3

set_option Elab.async false
set_option linter.all false
set_option maxRecDepth 100000
set_option maxHeartbeats 2000000
namespace G3
open PySem PySem.Spec PyProof.Rows L2
/-- a line of the table -/
def tabLine (es : List Pr) (n v : Nat) : List Int := (List.range n).map fun u => (mult es v u : Int)
theorem tabLine_get {es : List Pr} {n v u : Nat} (h : u < n) : ((tabLine es n v).map V.int)[u]? = some (nV (mult es v u)) := by
  unfold tabLine
  rw [List.getElem?_map, List.getElem?_map, List.getElem?_range h]; rfl
theorem tabLine_len {es : List Pr} {n v : Nat} : ((tabLine es n v).map V.int).length = n := by
  unfold tabLine
  rw [List.length_map, List.length_map, List.length_range]
theorem tabLine_set {es es' : List Pr} {n v a : Nat} (h : ∀ u, u < n → mult es' v u = if u = a then mult es v a + 1 else mult es v u) : ((tabLine es n v).map V.int).set a (nV (mult es v a + 1)) = (tabLine es' n v).map V.int := by
  apply List.ext_getElem?
  intro i
  by_cases hi : i < n
  · rw [tabLine_get hi, h i hi]
    by_cases c : a = i
    · subst c
      rw [List.getElem?_set_self (by rw [tabLine_len]; exact hi), if_pos rfl]
    · rw [List.getElem?_set_ne c, tabLine_get hi, if_neg (fun z => c z.symm)]
  · rw [List.getElem?_eq_none (by rw [List.length_set, tabLine_len]; omega), List.getElem?_eq_none (by rw [tabLine_len]; omega)]
theorem rep_zero {n v : Nat} : (List.replicate n [V.int 0]).flatten = (tabLine [] n v).map V.int := by
  apply List.ext_getElem?
  intro i
  have e : ∀ n : Nat, (List.replicate n [V.int 0]).flatten = List.replicate n (V.int 0) := fun n => by
    induction n with
    | zero => rfl
    | succ n ih => rw [List.replicate_succ, List.flatten_cons, ih]; rfl
  rw [e]
  by_cases hi : i < n
  · rw [tabLine_get hi, List.getElem?_replicate, if_pos hi]; rfl
  · rw [List.getElem?_eq_none (by rw [List.length_replicate]; omega), List.getElem?_eq_none (by rw [tabLine_len]; omega)]
section
variable {P : Program} {w : World} {K : PySem.W.Frag} {mg : Str → Option Value} {base : Heap} {C : Addr}
abbrev n_law_table : List Str := ["n", "edges", "rows", "one", "other", "place"]
abbrev p_law_table : List Str := ["n", "edges"]
theorem sc_law_table : FnScope n_law_table p_law_table (defScope s_law_table) := ⟨rfl, rfl, rfl, by decide +kernel, rfl, by decide +kernel, by decide +kernel⟩
abbrev n_law_led : List Str := ["table", "chips", "script", "found", "u", "v"]
abbrev p_law_led : List Str := ["table", "chips", "script"]
theorem sc_law_led : FnScope n_law_led p_law_led (defScope s_law_led) := ⟨rfl, rfl, rfl, by decide +kernel, rfl, by decide +kernel, by decide +kernel⟩
def spTable : Sp := fun vs H Q _ => ∃ (n : Nat) (l : Addr) (es : List Pr), vs = [nV n, .ref l] ∧ PLst H l es ∧ (∀ e ∈ es, e.1 < e.2 ∧ e.2 < n) ∧ n ≤ 1000 ∧ es.length ≤ 10000 ∧
  ∀ (H' : Hp) (T : Addr) (as : List Addr), Same H H' → H T = none → as.length = n → (∀ a ∈ as, H a = none) → Rows H' T as (fun v => .lst ((tabLine es n v).map V.int)) → Q (.ref T) H'
theorem ok_table (D : DefAt K mg "_law_table" "_law_table" s_law_table) (B : Bt mg) : Has P w K mg base CX0 1 "_law_table" p_law_table spTable := by
  refine has_of D sc_law_table (fun _ _ _ _ _ _ us hl => match us, hl with | [_, _], _ => rfl) (fun vs H Q E h => ?_) (fun f cdv A outer s H vs Q E hr h => ?_)
  · obtain ⟨n, l, es, rfl, _⟩ := h
    rfl
  · obtain ⟨n, l, es, rfl, ⟨vs, hl, hvs⟩, hes, hn, hel, q⟩ := h
    refine ⟨_, (pss_cons (ps_setLc (i := 2) (own := [("place", 5)]) (g := gName 5) (tt := tYes) rfl sc_law_table.nd rfl rfl (sw_true rfl rfl rfl (by decide +kernel)) (pi_range1 rfl B.range (pa_cons (pv 0) pa_nil)) (blkOk_by (N := n_law_table) (sc := defScope s_law_table) (by decide +kernel)) (fun _ _ _ _ _ => (pg_name (i := 5) sc_law_table.nd rfl (.inl rfl))) (fun _ _ _ _ _ => pts_nil) (fun _ _ _ _ _ => (pe_op op_rep (pe_lst (pa_cons pe_int pa_nil)) (pv 0))))
  (pss_cons (ps_for PassesOwn.never rfl (piL (K := K) rfl (pv 1)) (pgT (K := K) (n := 2) rfl rfl (pgs_cons (pg_name (i := 3) sc_law_table.nd rfl (.inl rfl)) (pgs_cons (pg_name (i := 4) sc_law_table.nd rfl (.inl rfl)) pgs_nil))) (pss_cons (ps_asg (pe_op op_add (pe_ix (ixL (K := K) rfl) (pe_ix (ixL (K := K) rfl) (pv 2) (pv 3) (fun _ _ => rfl)) (pv 4) (fun _ _ => rfl)) pe_int) (pg_sub (pe_ix (ixL (K := K) rfl) (pv 2) (pv 3) (fun _ _ => rfl)) (pv 4) set_list))
  (pss_one (ps_asg (pe_op op_add (pe_ix (ixL (K := K) rfl) (pe_ix (ixL (K := K) rfl) (pv 2) (pv 4) (fun _ _ => rfl)) (pv 3) (fun _ _ => rfl)) pe_int) (pg_sub (pe_ix (ixL (K := K) rfl) (pv 2) (pv 4) (fun _ _ => rfl)) (pv 3) set_list)))))
  (pss_one (ps_ret (pv 2))))), ?_⟩
    refine ⟨_, rfl, n, rfl, by omega, by omega, fun B0 nB => ?_⟩
    refine lc_range (lo := 0) (n := n) (fun i H2 => Same H H2 ∧ ∃ as, as.length = i ∧ Rows H2 B0 as (fun v => .lst ((tabLine [] n v).map V.int)) ∧ ∀ a ∈ as, H a = none) ⟨same_upd nB, [], rfl, Rows.nil, fun a h => nomatch h⟩ ?_ ?_
    · rintro i H2 hi ⟨sm, as, las, ro, fr⟩
      refine ⟨rfl, yes_ ?_⟩
      refine ⟨by show 1 ≤ sizeLine; decide, fun z nz => ?_⟩
      have sz : Same H2 (upd H2 z (.lst [.int 0])) := same_upd nz
      refine ⟨_, rfl, z, n, [.int 0], rfl, rfl, upd_same, by omega, by omega, size_le (by show 1 * _ ≤ _; omega), fun a na => ?_⟩
      have e : (List.replicate (n : Int).toNat [V.int 0]).flatten = (tabLine [] n as.length).map V.int := rep_zero
      rw [e]
      have s2 := sm.trans sz
      obtain ⟨p1, p2⟩ := (ro.same sz).push (o := .lst ((tabLine [] n as.length).map V.int)) na rfl
      refine ⟨_, p1, size_lt (by rw [List.length_map]; omega), same_mut (s2.trans (same_upd na)) nB, as ++ [a], by rw [List.length_append, las]; rfl, p2, fun x hx => ?_⟩
      rcases List.mem_append.mp hx with hx | hx
      · exact fr x hx
      · rw [List.mem_singleton.mp hx]; exact s2.free na
    rintro H2 ⟨sm2, as, las, ro, fr⟩
    have notAs : ∀ x o, H x = some o → ¬ x ∈ as := fun x o e z => by
      have := fr x z
      rw [e] at this; cases this
    refine ⟨_, rfl, l, rfl, ⟨_, SqL.of (sm2 _ _ hl)⟩, ?_⟩
    refine for_list (K := K) (a := l) (xs := vs) (fun i σ H' => ∃ (y z t : Option V), σ = [some (nV n), some (.ref l), some (.ref B0), y, z, t] ∧ But (· ∈ as) H2 H' ∧ Rows H' B0 as (fun v => .lst ((tabLine (es.take i) n v).map V.int))) ?_ ?_ ?_ ?_
    · exact ⟨_, _, _, rfl, But.refl, ro⟩
    · rintro i σ H' hi ⟨_, _, _, _, bt, _⟩
      exact SqL.of (bt _ _ (notAs _ _ hl) (sm2 _ _ hl))
    · rintro i x σ H' hx ⟨y, z, t0, rfl, bt, ro'⟩
      have hi : i < es.length := by rw [← hvs.len]; exact (List.getElem?_eq_some_iff.mp hx).1
      obtain ⟨t, e1, e2⟩ := hvs.get hi
      rw [hx] at e1
      obtain rfl := Option.some.inj e1
      obtain ⟨b1, b2⟩ := hes _ (List.getElem_mem hi)
      have hei : es[i]? = some es[i] := List.getElem?_eq_getElem hi
      generalize es[i] = e at e2 b1 b2 hei
      obtain ⟨a, b⟩ := e
      have ht : H' t = some (.tup [nV a, nV b]) := bt _ _ (notAs _ _ e2) (sm2 _ _ e2)
      refine ⟨t, _, rfl, SqT.of ht, rfl, _, _, rfl, _, _, rfl, rfl, ?_⟩
      have b1 : a < b := b1
      have b2 : b < n := b2
      have la : a < as.length := by omega
      have lb : b < as.length := by omega
      have ha := (ro'.at la).2
      -- rows[one][other] + 1
      refine ⟨_, rfl, _, rfl, _, _, a, .ref as[a], rfl, rfl, SqL.of ro'.1, atI_nat (rows_get la), _, rfl, _, _, b, _, rfl, rfl, SqL.of ha, atI_nat (tabLine_get b2), _, _, rfl, rfl, ?_⟩
      refine ⟨_, rfl, _, rfl, _, _, a, .ref as[a], rfl, rfl, SqL.of ro'.1, atI_nat (rows_get la), _, rfl, as[a], _, b, b, rfl, rfl, ha, Evl.ixN_nat (by rw [tabLine_len]; exact b2), ?_⟩
      have nab : ¬ b = a := by omega
      have r1 := ro'.set (o := .lst (((tabLine (es.take i) n a).map V.int).set b (nV (mult (es.take i) a b + 1)))) (List.getElem?_eq_getElem la)
      have m1 : But (· ∈ as) H' (upd H' as[a] (.lst (((tabLine (es.take i) n a).map V.int).set b (nV (mult (es.take i) a b + 1))))) := But.mut (X := (· ∈ as)) (List.getElem_mem la)
      have hb := (r1.at lb).2
      have hb : (upd H' as[a] (.lst (((tabLine (es.take i) n a).map V.int).set b (nV (mult (es.take i) a b + 1))))) as[b] = some (.lst ((tabLine (es.take i) n b).map V.int)) := by
        rw [hb]; show some (if b = a then _ else _) = _; rw [if_neg nab]
      have a1 : a < n := by omega
      refine ⟨_, rfl, _, rfl, _, _, b, .ref as[b], rfl, rfl, SqL.of r1.1, atI_nat (rows_get lb), _, rfl, _, _, a, _, rfl, rfl, SqL.of hb, atI_nat (tabLine_get a1), _, _, rfl, rfl, ?_⟩
      refine ⟨_, rfl, _, rfl, _, _, b, .ref as[b], rfl, rfl, SqL.of r1.1, atI_nat (rows_get lb), _, rfl, as[b], _, a, a, rfl, rfl, hb, Evl.ixN_nat (by rw [tabLine_len]; exact a1), ?_⟩
      refine ⟨_, _, _, rfl, (bt.trans m1).trans (But.mut (X := (· ∈ as)) (List.getElem_mem lb)), ?_⟩
      refine (r1.set (o := .lst (((tabLine (es.take i) n b).map V.int).set a (nV (mult (es.take i) b a + 1)))) (List.getElem?_eq_getElem lb)).to fun v hv => ?_
      show (if v = b then HO.lst (((tabLine (es.take i) n b).map V.int).set a (nV (mult (es.take i) b a + 1))) else if v = a then HO.lst (((tabLine (es.take i) n a).map V.int).set b (nV (mult (es.take i) a b + 1))) else .lst ((tabLine (es.take i) n v).map V.int)) = _
      by_cases c : v = b
      · subst c
        rw [if_pos rfl, tabLine_set (es' := es.take (i + 1)) fun u hu => ?_]
        rw [mult_take hei]
        by_cases d : u = a
        · subst d
          rw [if_pos rfl, if_neg (show ¬ (u, v) = (v, u) from fun z => by cases z; omega), if_pos rfl]
        · rw [if_neg d, if_neg (show ¬ (a, v) = (v, u) from fun z => by cases z; omega), if_neg (show ¬ (a, v) = (u, v) from fun z => by cases z; exact d rfl)]; rfl
      · rw [if_neg c]
        by_cases c2 : v = a
        · subst c2
          rw [if_pos rfl, tabLine_set (es' := es.take (i + 1)) fun u hu => ?_]
          rw [mult_take hei]
          by_cases d : u = b
          · subst d
            rw [if_pos rfl, if_pos rfl, if_neg (show ¬ (v, u) = (u, v) from fun z => by cases z; omega)]
          · rw [if_neg d, if_neg (show ¬ (v, b) = (v, u) from fun z => by cases z; exact d rfl), if_neg (show ¬ (v, b) = (u, v) from fun z => by cases z; omega)]; rfl
        · rw [if_neg c2]
          have : tabLine (es.take (i + 1)) n v = tabLine (es.take i) n v := by
            unfold tabLine
            refine List.map_congr_left fun u _ => ?_
            rw [mult_take hei, if_neg (show ¬ (a, b) = (v, u) from fun z => by cases z; exact c2 rfl), if_neg (show ¬ (a, b) = (u, v) from fun z => by cases z; exact c rfl)]; rfl
          rw [this]
    · rintro σ H' ⟨y, z, t, rfl, bt, ro'⟩
      rw [hvs.len, List.take_length] at ro'
      exact ⟨_, rfl, q _ _ as (bt.same sm2 fr) nB las fr ro'⟩
def spLedT (K : PySem.W.Frag) : Sp := fun vs H Q _ => ∃ (T c0 q0 : Addr) (as : List Addr) (n : Nat) (es : List Pr) (cs ns : List Int), vs = [.ref T, .ref c0, .ref q0] ∧ Rows H T as (fun v => .lst ((tabLine es n v).map V.int)) ∧ as.length = n ∧ n ≤ 1000 ∧ es.length ≤ 10000 ∧ RowAt H c0 cs ∧ RowAt H q0 ns ∧ cs.length = n ∧ ns.length = n ∧
  ∀ (H' : Hp) (L : Addr), Same H H' → H L = none → H' L = some (.lst ((ledOf n es cs ns).map V.int)) → Q (.ref L) H'
theorem ok_ledT (D : DefAt K mg "_law_led" "_law_led" s_law_led) (B : Bt mg) : Has P w K mg base CX0 1 "_law_led" p_law_led (spLedT K) := by
  refine has_of D sc_law_led (fun _ _ _ _ _ _ us hl => match us, hl with | [_, _, _], _ => rfl) (fun vs H Q E h => ?_) (fun f cdv A outer s H vs Q E hr h => ?_)
  · obtain ⟨T, c0, q0, as, n, es, cs, ns, rfl, _⟩ := h
    rfl
  · obtain ⟨T, c0, q0, as, n, es, cs, ns, rfl, ro, las, hn, hes, hc, hq, hcs, hns, q⟩ := h
    refine ⟨_, (pss_cons (ps_set (i := 3) sc_law_led.nd rfl (.inl rfl) (pe_lst pa_nil))
  (pss_cons (ps_for PassesOwn.never rfl (pi_range1 rfl B.range (pa_cons (pe_callB (lenK (K := K) rfl) rfl B.len PySem.boot_len (pa_cons (pv 0) pa_nil)) pa_nil)) (pg_name (i := 4) sc_law_led.nd rfl (.inr rfl)) (pss_one (ps_expr (pe_bm PySem.F.plainAttrs_list PySem.F.slot_list_append PySem.F.type_list_append mt_append (pv 3) (pa_cons (pe_op op_sub (pe_ix (ixR (K := K) rfl) (pv 1) (pv 4) (fun _ _ => rfl)) (pe_callB (sumK (K := K) rfl rfl) rfl B.sum (by decide +kernel) (pa_cons (pe_lc (own := [("v", 5)]) (g := gName 5) (tt := tYes) rfl sc_law_led.nd (pi_range1 rfl B.range (pa_cons (pe_callB (lenK (K := K) rfl) rfl B.len PySem.boot_len (pa_cons (pv 0) pa_nil)) pa_nil)) (blkOk_by (N := n_law_led) (sc := defScope s_law_led) (by decide +kernel)) (fun _ _ _ _ _ => (pg_name (i := 5) sc_law_led.nd rfl (.inl rfl))) (fun _ _ _ _ _ => pts_nil) (fun _ _ _ _ _ => (pe_op op_mul (pe_ix (ixL (K := K) rfl) (pe_ix (ixL (K := K) rfl) (pv 0) (pv 4) (fun _ _ => rfl)) (pv 5) (fun _ _ => rfl)) (pe_op op_sub (pe_ix (ixR (K := K) rfl) (pv 2) (pv 4) (fun _ _ => rfl)) (pe_ix (ixR (K := K) rfl) (pv 2) (pv 5) (fun _ _ => rfl)))))) pa_nil))) pa_nil)))))
  (pss_one (ps_ret (pv 3))))), ?_⟩
    have lenT : (as.map V.ref).length = n := by rw [List.length_map, las]
    refine ⟨by show 0 ≤ sizeLine; decide, fun F0 nF => ?_⟩
    have s1 : Same H (upd H F0 (.lst [])) := same_upd nF
    have hF : (upd H F0 (.lst [])) F0 = some (.lst []) := upd_same
    generalize upd H F0 (.lst []) = H1 at s1 hF
    have hT : ∀ H', Same H H' → LenV K (.ref T) H' n := fun H' sm => .inl ⟨_, SqL.of (sm _ _ ro.1), lenT.symm⟩
    refine ⟨_, rfl, _, n, rfl, hT _ s1, n, rfl, by omega, by omega, ?_⟩
    refine for_range (lo := 0) (n := n) (fun i σ H' => ∃ (y z : Option V), σ = [some (.ref T), some (.ref c0), some (.ref q0), some (.ref F0), y, z] ∧ Same H H' ∧ H' F0 = some (.lst (((ledOf n es cs ns).take i).map V.int))) ?_ ?_ ?_
    · exact ⟨_, _, rfl, s1, hF⟩
    · rintro i σ H' hi ⟨y, z, rfl, sm, hF'⟩
      have ei : V.int (0 + (i : Int)) = nV i := by rw [Int.zero_add]
      rw [ei]
      have gc : (cs.map V.int)[i]? = some (.int (cs.getD i 0)) := by
        have : i < cs.length := by omega
        rw [getMap this, List.getD_eq_getElem?_getD, List.getElem?_eq_getElem this]; rfl
      have gs : ∀ i : Nat, i < n → (ns.map V.int)[i]? = some (.int (ns.getD i 0)) := fun i hi => by
        have : i < ns.length := by omega
        rw [getMap this, List.getD_eq_getElem?_getD, List.getElem?_eq_getElem this]; rfl
      refine ⟨_, rfl, .inl ⟨rfl, _, SqL.of hF'⟩, _, rfl, _, rfl, _, _, i, _, rfl, rfl, (hc.same sm).sq, atI_nat gc, ?_⟩
      refine ⟨_, rfl, _, n, rfl, hT _ sm, n, rfl, by omega, by omega, fun L nL => ?_⟩
      refine lc_range (lo := 0) (n := n) (fun j H2 => Same H' H2 ∧ H2 L = some (.lst (((List.range j).map fun u => (mult es i u : Int) * (ns.getD i 0 - ns.getD u 0)).map V.int))) ⟨same_upd nL, upd_same⟩ ?_ ?_
      · rintro j H2 hj ⟨sm2, hL⟩
        have ej : V.int (0 + (j : Int)) = nV j := by rw [Int.zero_add]
        rw [ej]
        have s2 := sm.trans sm2
        have ro2 := ro.same s2
        have lI : i < as.length := by omega
        have hml : mult es i j ≤ 20000 := Nat.le_trans mult_le (by omega)
        refine ⟨rfl, yes_ ?_⟩
        refine ⟨_, rfl, _, rfl, _, _, i, .ref as[i], rfl, rfl, SqL.of ro2.1, atI_nat (rows_get lI), _, rfl, _, _, j, _, rfl, rfl, SqL.of (ro2.at lI).2, atI_nat (tabLine_get hj), ?_⟩
        refine ⟨_, rfl, _, rfl, _, _, i, _, rfl, rfl, (hq.same s2).sq, atI_nat (gs i hi), _, rfl, _, rfl, _, _, j, _, rfl, rfl, (hq.same s2).sq, atI_nat (gs j hj), ?_⟩
        refine ⟨_, _, rfl, rfl, _, _, rfl, rfl, .inl ⟨by omega, by omega⟩, _, hL, size_lt (by rw [List.length_map, List.length_map, List.length_range]; omega), same_mut sm2 nL, ?_⟩
        rw [upd_same, List.range_succ, List.map_append, List.map_append]; rfl
      · rintro H2 ⟨sm2, hL⟩
        refine ⟨L, _, rfl, SqL.of hL, _, _, rfl, rfl, F0, _, _, rfl, rfl, sm2 _ _ hF', size_lt (by rw [List.length_map, List.length_take]; omega), ?_⟩
        refine ⟨_, _, rfl, same_mut (sm.trans sm2) nF, ?_⟩
        have e : (ledOf n es cs ns)[i]? = some (cs.getD i 0 - sentOf n es (fun i => ns.getD i 0) i) := by
          unfold ledOf
          rw [List.getElem?_map, List.getElem?_range hi]; rfl
        rw [upd_same, List.take_add_one, e, List.map_append]; rfl
    · rintro σ H' ⟨y, z, rfl, sm, hF'⟩
      have e : (ledOf n es cs ns).take n = ledOf n es cs ns := List.take_of_length_le (by unfold ledOf; simp)
      rw [e] at hF'
      exact ⟨_, rfl, q _ _ sm nF hF'⟩
end
end G3

set_option Elab.async false
set_option linter.all false
set_option maxRecDepth 100000
set_option maxHeartbeats 4000000
/-! sorted(tuple of ints) -/
namespace PyProof.Rows
open PySem
section
variable {prog : Program} {w : World} {A : Around} {E : Value → Shared → Prop} {s : Shared}
theorem g3_collect_tup {tp : Addr} {us : List Value} {Q : List Value → Shared → Prop} (hT : s.heap.IsTuple tp us.toArray) (small : us.length ≤ sizeLine)
    (goal : Q us { s with heap := (s.heap.push (seqObj "list" #[] 0)).update s.heap.objs.size (Obj.mapSeq (· ++ us.toArray)) }) : wpAny (model prog w) A (collect (.ref tp)) Q E s := by
  obtain ⟨ob, g1, g2, k, g3⟩ := id hT
  unfold collect
  refine wpAny_bind (wpAny_runValue (codeAny_builtin entry_proto_collect' (?_ : wpAny _ _ (do again (.builtin "list.__iadd__" ⟨[← newList [], .ref tp], []⟩)) _ _ s)))
  refine wpAny_bind (wpAny_newList (wpAny_pure ⟨Code.quiet_builtin _ (by decide +kernel), codeAny_builtin entry_list_iadd' (?_ : wpAny _ _ (Builtin.List.listExtendWith (.ref s.heap.objs.size) (.ref tp) (.ref s.heap.objs.size)) _ _ { s with heap := s.heap.push (seqObj "list" #[] 0) })⟩))
  have g1' : (s.heap.push (seqObj "list" #[] 0)).get? tp = some ob := Heap.get?_push_of_some _ g1
  have own0 : (s.heap.push (seqObj "list" #[] 0)).get? s.heap.objs.size = some (seqObj "list" #[] 0) := Heap.get?_push_size _ rfl
  unfold Builtin.List.listExtendWith
  have yes : (Builtin.List.listSameRef (.ref s.heap.objs.size) (.ref tp) || Value.type "tuple" == Value.type "list" || Value.type "tuple" == Value.type "tuple") = true := by
    rw [show (Value.type "tuple" == Value.type "tuple") = true from rfl, Bool.or_true]
  refine wpAny_bind (wpAny_typeOf (T := "tuple") ⟨ob, g1', g2⟩ ?_)
  rw [if_pos yes]
  refine wpAny_bind (listItems_at (o := ob) g1' g3 (wpAny_bind (listItems_at (xs := #[]) (n := 0) own0 rfl ?_)))
  rw [if_neg (by simp)]
  refine wpAny_bind (listUpdate_at (xs := #[]) (n := 0) own0 rfl (wpAny_pure ?_) (Nat.zero_le _) (by simp only [Array.size_append, List.size_toArray, List.length_nil]; omega))
  refine (?_ : wpAny (model prog w) A (do
      let got ← load s.heap.objs.size
      match got.data with | .seq its _ => pure its.toList | _ => unsupported "internal:collect") Q E { s with heap := (s.heap.push (seqObj "list" #[] 0)).update s.heap.objs.size (Obj.mapSeq (· ++ us.toArray)) })
  refine wpAny_bind (wpAny_load (get?_update_seq own0 _) (?_ : wpAny _ _ (pure ((#[] : Array Value) ++ us.toArray).toList) Q E _))
  have et : ((#[] : Array Value) ++ us.toArray).toList = us := by simp
  rw [et]
  exact wpAny_pure goal
theorem g3_sorted_tup {tp : Addr} {us : List Value} {ltv : Value → Value → Bool} {Q : Value → Shared → Prop} (O : SrtO.Swo ltv) (hT : s.heap.IsTuple tp us.toArray) (small : us.length ≤ sizeLine)
    (can : 2 ≤ us.length → ∀ (h₁ : Heap) (a : Addr), h₁.get? a = some (seqObj "list" us.toArray 0) → (∀ b o, s.heap.get? b = some o → b ≠ a ∧ h₁.get? b = some o) → SrtO.SortableO prog w A.in1.in1 { s with heap := h₁ } a us ltv)
    (goal : ∀ res : List Value, SrtO.Srtd ltv res → SrtO.Stb ltv res us → Q (.ref (s.heap.objs.size + 1)) { s with heap := sortedAll s.heap us res.toArray }) : wpAny (model prog w) A (call (.builtin "sorted") [.ref tp]) Q E s := by
  refine Calls.call_function_entry kind_sorted plain_sorted entry_sorted (args_sorted1 _) (?_ : wpAny _ _ (Builtin.«sorted» _) _ _ _)
  unfold Builtin.«sorted»
  refine wpAny_bind (m := checkCount "sorted" 1 1 _) (wpAny_pure (wpAny_bind (g3_collect_tup hT small (wpAny_bind (wpAny_newList ?_ small)))))
  have e1 : ((s.heap.push (seqObj "list" #[] 0)).update s.heap.objs.size (Obj.mapSeq (· ++ us.toArray))).objs.size = s.heap.objs.size + 1 := by rw [Heap.size_update, size_push']
  have e2 : (((s.heap.push (seqObj "list" #[] 0)).update s.heap.objs.size (Obj.mapSeq (· ++ us.toArray))).push (seqObj "list" us.toArray 0)).get? (s.heap.objs.size + 1) = some (seqObj "list" us.toArray 0) := e1 ▸ Heap.get?_push_size _ rfl
  have old : ∀ b o, s.heap.get? b = some o → b ≠ s.heap.objs.size + 1 ∧ (((s.heap.push (seqObj "list" #[] 0)).update s.heap.objs.size (Obj.mapSeq (· ++ us.toArray))).push (seqObj "list" us.toArray 0)).get? b = some o := fun b o z => by
    have lt := Heap.lt_size z
    exact ⟨Nat.ne_of_lt (Nat.lt_succ_of_lt lt), Heap.get?_push_of_some _ (by rw [Heap.get?_update_ne _ _ _ _ (Nat.ne_of_lt lt)]; exact Heap.get?_push_of_some _ z)⟩
  refine (?_ : wpAny _ _ _ _ _ { s with heap := ((s.heap.push (seqObj "list" #[] 0)).update s.heap.objs.size (Obj.mapSeq (· ++ us.toArray))).push (seqObj "list" us.toArray 0) })
  rw [e1]
  refine wpAny_bind (wpAny_holding (wpAny_call_entry slot_list_sort ⟨_, e2, rfl⟩ entry_list_sort (SrtO.list_sort_ord O e2 small (fun two => can two _ _ e2 old) fun res r1 r2 => ⟨_, rfl, (?_ : wpAny _ _ _ _ _ _)⟩) (args_list_sort _)))
  exact wpAny_pure ⟨_, rfl, goal res r1 r2⟩
end
end PyProof.Rows
namespace L2
open PySem PySem.Spec PyProof.Rows
def rSortedIT (K : PySem.W.Frag) : List V → Hp → VK → Prop := fun vs H Q => ∃ (a : Addr) (ns : List Int), vs = [V.ref a] ∧ SqT K H a (ns.map V.int) ∧ ∀ (ns' : List Int) (p : Addr), ns'.Perm ns → ns'.Pairwise (· ≤ ·) → H p = none → Q (.ref p) (upd H p (.lst (ns'.map V.int)))
theorem cr_sortedIT {X : Cx} {K : PySem.W.Frag} (hK : X.K = K) : CallR X (.builtin "sorted") (rSortedIT K) := by
  subst hK
  intro pins s σ H vs us Q I r h
  obtain ⟨a, ns, rfl, hs, q⟩ := h
  obtain ⟨its, rv, hl, hz⟩ := I.tuple hs
  rw [Vals.ref1 r]
  have hi := rv.ints
  have sm : its.length ≤ sizeLine := rv.length ▸ hz
  refine g3_sorted_tup SrtO.swo_int hl sm (fun two _ _ _ _ => SrtO.ints_sortable hi two) fun res r1 r2 => ?_
  obtain ⟨k1, k2, k3⟩ := SrtO.ints_out hi r1 r2
  obtain ⟨ep, he⟩ := PyProof.Rows.sortedAll_at s.heap its res.toArray
  have len : ((res.map SrtO.iv).map V.int).length ≤ sizeLine := by
    rw [List.length_map, k2.length_eq]
    rwa [List.length_map] at hz
  refine ⟨.ref _, upd H (s.heap.objs.size + 1) (.lst ((res.map SrtO.iv).map V.int)), ?_, rfl, q _ _ k2 k3 (I.hok.fresh (Nat.le_succ _))⟩
  exact I.laid (t' := s.toks) (fun _ _ => PyProof.Rows.sortedAll_old) (Nat.le_succ _) ⟨len, res, ep, vals_of_ints k1, he⟩
end L2

set_option Elab.async false
set_option linter.all false
set_option maxRecDepth 100000
set_option maxHeartbeats 4000000
namespace G3
open PySem PySem.Spec PyProof.Rows L2
theorem dp_intsX {K : PySem.W.Frag} {H : Hp} : ∀ l : List Int, DpAll K H (l.map V.int) (l.map PyData.int)
  | [] => .nil
  | a :: l => by rw [List.map_cons, List.map_cons]; exact .cons (.int _) (dp_intsX l)
theorem shaped_intsX (ns : List Int) : SeqAt.shaped (.list (ns.map PyData.int)) = true := by
  have h1 : ∀ ns : List Int, PyData.canLayAll0 (ns.map PyData.int) = true := fun ns => by
    induction ns with
    | nil => simp [PyData.canLayAll0]
    | cons a l ih => rw [List.map_cons, PyData.canLayAll0, ih]; simp [PyData.canLay0]
  unfold SeqAt.shaped
  rw [Bool.and_eq_true]
  refine ⟨by rw [PyData.canLay0]; exact h1 ns, decide_eq_true ?_⟩
  have h2 : ∀ ns : List Int, PyData.depthAll (ns.map PyData.int) = 0 := fun ns => by
    induction ns with
    | nil => simp [PyData.depthAll]
    | cons a l ih => rw [List.map_cons, PyData.depthAll, ih]; simp [PyData.depth]
  have h2 := h2 ns
  simp only [PyData.depth, h2]
  omega
theorem eqv_intsX (ns ms : List Int) : PyData.eqv (.list (ns.map PyData.int)) (.list (ms.map PyData.int)) = decide (ns = ms) := by
  have h1 : ∀ ns ms : List Int, PyData.eqvAll (ns.map PyData.int) (ms.map PyData.int) = decide (ns = ms) := fun ns => by
    induction ns with
    | nil => intro ms; cases ms with
      | nil => simp [PyData.eqvAll]
      | cons b l => simp [PyData.eqvAll]
    | cons a l ih => intro ms; cases ms with
      | nil => simp [PyData.eqvAll]
      | cons b k => rw [List.map_cons, List.map_cons, PyData.eqvAll, ih, PyData.eqv]; by_cases e : a = b <;> simp [e]
  rw [PyData.eqv]
  exact h1 ns ms
theorem nV_ints (l : List Nat) : l.map nV = (l.map fun n : Nat => (n : Int)).map V.int := by rw [List.map_map]; rfl
/-! ## an order in which all burns -/
structure OrdB (n : Nat) (es : List Pr) (cs : Nat → Int) (p : Nat) (O : List Nat) : Prop where
  hd : O[0]? = some p
  pm : O.Perm (List.range n)
  hot : ∀ k (h : k < O.length), 0 < k → cs O[k] < hO es (O.take k) O[k]
theorem sorted_range {ns : List Int} {O : List Nat} {n : Nat} (h : O.Perm (List.range n)) (p : ns.Perm (O.map fun n : Nat => (n : Int))) (s : ns.Pairwise (· ≤ ·)) : ns = (List.range n).map fun n : Nat => (n : Int) := by
  refine List.Perm.eq_of_pairwise (fun _ _ _ _ h1 h2 => Int.le_antisymm h1 h2) s ?_ (p.trans (h.map _))
  rw [List.pairwise_map]
  exact List.Pairwise.imp (fun h => Int.ofNat_le.mpr h) List.pairwise_le_range
theorem hO_heat {n : Nat} {es : List Pr} : ∀ {O : List Nat}, O.Nodup → (∀ u, u ∈ O → u < n) → ∀ v, hO es O v = heatS n es (fun u => decide (u ∈ O)) v
  | [], _, _, v => by
    unfold hO heatS
    rw [sumI_congr (g := fun _ => 0) fun u _ => if_neg (by simp), sumI_zero fun _ _ => rfl]; rfl
  | a :: O, nd, lt, v => by
    have ih := hO_heat (n := n) (es := es) (List.nodup_cons.mp nd).2 (fun u hu => lt u (List.mem_cons_of_mem _ hu)) v
    show mI es v a + hO es O v = _
    rw [ih]
    unfold heatS
    have hd : sumI n (fun u => if u = a then mI es v u else 0) = mI es v a := by
      have := sumI_delta (n := n) (v := a) (f := fun u => mI es v u) (lt a (List.mem_cons_self ..))
      exact this
    rw [← hd, ← sumI_add]
    refine sumI_congr fun u _ => ?_
    have na := (List.nodup_cons.mp nd).1
    by_cases e : u = a
    · subst e
      rw [if_pos rfl, if_neg (show ¬ decide (u ∈ O) = true by rw [decide_eq_false na]; exact Bool.false_ne_true), if_pos (decide_eq_true (List.mem_cons_self ..)), Int.add_zero]
    · rw [if_neg e, Int.zero_add]
      by_cases c : u ∈ O
      · rw [if_pos (decide_eq_true c), if_pos (decide_eq_true (List.mem_cons_of_mem _ c))]
      · rw [if_neg (show ¬ decide (u ∈ O) = true by rw [decide_eq_false c]; exact Bool.false_ne_true), if_neg (show ¬ decide (u ∈ a :: O) = true by rw [decide_eq_false (fun z => (List.mem_cons.mp z).elim e c)]; exact Bool.false_ne_true)]
theorem BurnO.all {n : Nat} {es : List Pr} {cs : Nat → Int} {p : Nat} {O : List Nat} (b : BurnO n es cs p O) (low : Low n es cs p) : O.Perm (List.range n) := by
  have pO : p ∈ O := List.mem_of_getElem? b.hd
  have l0 : 0 < O.length := List.length_pos_of_mem pO
  have hn := b.nx O.length l0 (Nat.le_refl _)
  rw [List.take_length, List.getElem?_eq_none (Nat.le_refl _)] at hn
  have all := low.2 (fun u => decide (u ∈ O)) ⟨decide_eq_true pO, fun v hv hS => by
    have := List.find?_eq_none.mp hn v (List.mem_range.mpr hv)
    unfold isNextB at this
    have hS : decide (v ∈ O) = false := hS
    rw [hS, hO_heat b.nd b.lt] at this
    rcases Int.lt_or_le (cs v) (heatS n es (fun u => decide (u ∈ O)) v) with c | c
    · exact absurd (by rw [decide_eq_true c]; rfl) this
    · exact c⟩
  refine (List.perm_ext_iff_of_nodup b.nd List.nodup_range).mpr fun a => ⟨fun h => List.mem_range.mpr (b.lt a h), fun h => ?_⟩
  exact of_decide_eq_true (all a (List.mem_range.mp h))
theorem BurnO.ord {n : Nat} {es : List Pr} {cs : Nat → Int} {p : Nat} {O : List Nat} (b : BurnO n es cs p O) (low : Low n es cs p) : OrdB n es cs p O where
  hd := b.hd
  pm := b.all low
  hot := fun k h h0 => by
    have e := b.nx k h0 (Nat.le_of_lt h)
    rw [List.getElem?_eq_getElem h] at e
    have := List.find?_some e
    unfold isNextB at this
    rw [Bool.and_eq_true] at this
    exact of_decide_eq_true this.2
theorem walk_enumX {K : PySem.W.Frag} {a : Addr} {xs : List V} : Walk (Ieu K a) xs.length (fun H => SqT K H a xs) (YPair (fun i => some (.int (i : Nat))) (fun i => xs[i]?)) := by
  refine ⟨fun i _ hi q => ⟨xs, xs[i], q, by simp [hi]⟩, fun _ q => ⟨xs, q, Nat.le_refl _⟩, fun i H v H' _ q y => ?_⟩
  obtain ⟨T, x, h1, h2, h3, h4⟩ := y
  exact ⟨T, .int (i : Nat), x, h1, h2, h3, rfl, h4 xs q⟩
section
variable {P : Program} {w : World} {K : PySem.W.Frag} {mg : Str → Option Value} {base : Heap} {C : Addr}
abbrev n_is_whole_row : List Str := ["row", "many", "part"]
abbrev p_is_whole_row : List Str := ["row", "many"]
theorem sc_is_whole_row : FnScope n_is_whole_row p_is_whole_row (defScope s_is_whole_row) := ⟨rfl, rfl, rfl, by decide +kernel, rfl, by decide +kernel, by decide +kernel⟩
abbrev n_is_burning_order : List Str := ["graph", "chips", "place", "order", "heat", "at", "other", "many"]
abbrev p_is_burning_order : List Str := ["graph", "chips", "place", "order"]
theorem sc_is_burning_order : FnScope n_is_burning_order p_is_burning_order (defScope s_is_burning_order) := ⟨rfl, rfl, rfl, by decide +kernel, rfl, by decide +kernel, by decide +kernel⟩
def spLedG (m : Memo) (C : Addr) : Sp := fun vs H Q _ => ∃ (g kd c0 q0 : Addr) (R : Addr → Prop) (n : Nat) (es : List Pr) (cs s : Nat → Int), vs = [.ref g, .ref c0, .ref q0] ∧ Gr m H C g kd R n es ∧ H c0 = some (.lst (rowF n cs)) ∧ (H q0 = some (.lst (rowF n s)) ∨ H q0 = some (.tup (rowF n s))) ∧
  ∀ (H' : Hp) (R' : Addr → Prop) (L : Addr), Stp m C g kd n es H R H' R' → H L = none → ¬ R' L → H' L = some (.lst (rowF n fun v => cs v - lapF n es s v)) → Q (.ref L) H'
theorem ledG {m : Memo} {k : Nat} (h : Has P w K mg base CX0 k "led" p_led (spLedR m C)) : Has P w K mg base CX0 k "led" p_led (spLedG m C) := h.imp fun vs H Q E hh => by
  obtain ⟨g, kd, c0, q0, R, n, es, cs, s, rfl, gr, hc, hq, q⟩ := hh
  rw [rowF_map] at hc hq
  refine ⟨g, kd, c0, q0, R, n, es, _, _, rfl, gr, hc, hq, by rw [List.length_map, List.length_range], by rw [List.length_map, List.length_range], fun H' R' L b gr' up fr nL nR hL => ?_⟩
  refine q H' R' L (stp_of b gr' up fr) nL nR ?_
  rw [hL, rowF_map]
  unfold ledOf
  congr 3
  refine List.map_congr_left fun i hi => ?_
  have hi := List.mem_range.mp hi
  rw [getD_range hi, lapF_sent]
  congr 1
  exact lapF_congr (fun u hu => getD_range hu) hi
theorem ledG_F {m : Memo} {k : Nat} (h : Has P w K mg base CX0 k "led" p_led (spLedG m C)) : Has P w K mg base CX0 k "led" p_led (spLedF m C) := h.imp fun vs H Q E hh => by
  obtain ⟨g, kd, c0, q0, R, n, es, cs, s, rfl, gr, hc, hq, q⟩ := hh
  exact ⟨g, kd, c0, q0, R, n, es, cs, s, rfl, gr, hc, .inl hq, q⟩
def spWR (K : PySem.W.Frag) : Sp := fun vs H Q _ => ∃ (a : Addr) (n : Nat) (ns : List Int), vs = [.ref a, nV n] ∧ SqT K H a (ns.map V.int) ∧ ns.length = n ∧ n ≤ 10000 ∧ ∀ H', Same H H' → Q (.bl true) H'
theorem ok_is_whole_row (D : DefAt K mg "is_whole_row" "is_whole_row" s_is_whole_row) (B : Bt mg) (h_is_whole_sums : Has P w K mg base CX0 1 "is_whole_sums" p_is_whole (spIsI K)) : Has P w K mg base CX0 2 "is_whole_row" p_is_whole_row (spWR K) := by
  refine has_of D sc_is_whole_row (fun _ _ _ _ _ _ us hl => match us, hl with | [_, _], _ => rfl) (fun vs H Q E h => ?_) (fun f cdv A outer s H vs Q E hr h => ?_)
  · obtain ⟨a, n, ns, rfl, _⟩ := h
    rfl
  · obtain ⟨a, n, ns, rfl, ha, hl, hn, q⟩ := h
    refine ⟨_, (pss_one (ps_ret (pe_and (pe_callB (isiK (K := K) rfl) rfl B.isinstance (by decide +kernel) (pa_cons (pv 0) (pa_cons (pe_bltn (v := .ty "tuple") (u := .type "tuple") rfl B.tuple (by decide +kernel) rfl) pa_nil))) (pe_and (pe_cmpR op_eq (pe_callB (lenK (K := K) rfl) rfl B.len PySem.boot_len (pa_cons (pv 0) pa_nil)) (pv 1) (nomark _)) (pe_one (pe_callB (allK (K := K) rfl rfl) rfl B.all (by decide +kernel) (pa_cons (pe_lc (own := [("part", 2)]) (g := gName 2) (tt := tYes) rfl sc_is_whole_row.nd (piT (K := K) rfl (pv 0)) (blkOk_by (N := n_is_whole_row) (sc := defScope s_is_whole_row) (by decide +kernel)) (fun _ _ _ _ _ => (pg_name (i := 2) sc_is_whole_row.nd rfl (.inl rfl))) (fun _ _ _ _ _ => pts_nil) (fun _ _ _ _ _ => (pe_h h_is_whole_sums hr pass0 (pa_cons (pv 2) pa_nil)))) pa_nil))))))), ?_⟩
    have ty := Dp.ty (Dp.tup ha (dp_intsX ns))
    refine ⟨_, rfl, _, _, _, _, _, rfl, .ty _, ty, kt_tuple _, _, rfl, iteT ?_⟩
    refine ⟨_, rfl, _, ns.length, rfl, .inr ⟨_, ha, by rw [List.length_map]⟩, _, rfl, rfl, _, rfl, ?_⟩
    rw [decide_eq_true (show V.int (ns.length : Int) = nV n by rw [hl])]
    refine iteT ?_
    refine ⟨_, rfl, a, rfl, ⟨_, ha⟩, fun L nL => ?_⟩
    refine lc_tup (K := K) (a := a) (xs := ns.map V.int) (fun i H2 => Same H H2 ∧ H2 L = some (.lst ((List.replicate i true).map V.bl))) ⟨same_upd nL, upd_same⟩ (fun i H2 _ p => Same.seqT p.1 ha) ?_ ?_
    · rintro i x H2 hx ⟨sm, hL⟩
      have hi : i < ns.length := by have := (List.getElem?_eq_some_iff.mp hx).1; rwa [List.length_map] at this
      rw [getMap hi] at hx
      obtain rfl := Option.some.inj hx
      refine ⟨rfl, yes_ ?_⟩
      refine ⟨_, rfl, _, _, rfl, .int _, _, hL, size_lt (by rw [len_rep]; omega), same_mut sm nL, ?_⟩
      rw [upd_same, List.replicate_succ', List.map_append]; rfl
    · rintro H2 ⟨sm, hL⟩
      refine ⟨_, _, rfl, SqL.of hL, ?_⟩
      rw [all_rep]
      exact q _ sm
def spBOr (m : Memo) (K : PySem.W.Frag) (C : Addr) : Sp := fun vs H Q _ => ∃ (g kd c o : Addr) (R : Addr → Prop) (n : Nat) (es : List Pr) (cs : Nat → Int) (p : Nat) (O : List Nat), vs = [.ref g, .ref c, nV p, .ref o] ∧ Gr m H C g kd R n es ∧ H c = some (.tup (rowF n cs)) ∧ H o = some (.tup (O.map nV)) ∧ p < n ∧ OrdB n es cs p O ∧
  ∀ (H' : Hp) (R' : Addr → Prop), Stp m C g kd n es H R H' R' → Q (.bl true) H'
theorem ok_is_burning_order {m : Memo} (D : DefAt K mg "is_burning_order" "is_burning_order" s_is_burning_order) (B : Bt mg) (G : GraphC K C) (h_is_whole_row : Has P w K mg base CX0 2 "is_whole_row" p_is_whole_row (spWR K)) (h_beside : Has P w K mg base CX0 1 "beside" p_beside (spBeside m C)) : Has P w K mg base CX0 3 "is_burning_order" p_is_burning_order (spBOr m K C) := by
  refine has_of D sc_is_burning_order (fun _ _ _ _ _ _ us hl => match us, hl with | [_, _, _, _], _ => rfl) (fun vs H Q E h => ?_) (fun f cdv A outer s H vs Q E hr h => ?_)
  · obtain ⟨g, kd, c, o, R, n, es, cs, p, O, rfl, _⟩ := h
    rfl
  · obtain ⟨g, kd, c, o, R, n, es, cs, p, O, rfl, gr, hc, ho, hp, ob, q⟩ := h
    refine ⟨_, (pss_cons (ps_if (PW.pt (pw_or (pt_not (pt_val (pe_h h_is_whole_row hr pass0 (pa_cons (pv 3) (pa_cons (fldK (K := K) rfl (pv 0) rfl) pa_nil))))) (pw_or (pt_cmpR (op_neD hr.units) (pe_callB (cr_sortedIT (K := K) rfl) rfl B.sorted (by decide +kernel) (pa_cons (pv 3) pa_nil)) (pe_listRg rfl rfl B.list (prg_1 rfl B.range (fldK (K := K) rfl (pv 0) rfl))) (nomark _)) (pw_or1 (pt_cmpR op_ne (pe_ix (ixT (K := K) rfl) (pv 3) pe_int (fun _ _ => rfl)) (pv 2) (nomark _)))))) (pss_one (ps_ret pe_bl)) pss_nil)
  (pss_cons (ps_set (i := 4) sc_is_burning_order.nd rfl (.inl rfl) (pe_op op_rep (pe_lst (pa_cons pe_int pa_nil)) (fldK (K := K) rfl (pv 0) rfl)))
  (pss_cons (ps_for PassesOwn.never rfl (piT (K := K) rfl (pv 3)) (pg_name (i := 5) sc_is_burning_order.nd rfl (.inl rfl)) (Evl.pss_cut (ps_if (PW.pt (pw_and (pt_cmpR op_ne (pv 5) (pv 2) (nomark _)) (pw_and1 (pt_cmpR op_le (pe_ix (ixL (K := K) rfl) (pv 4) (pv 5) (fun _ _ => rfl)) (pe_ix (ixT (K := K) rfl) (pv 1) (pv 5) (fun _ _ => rfl)) (nomark _))))) (pss_one (ps_ret pe_bl)) pss_nil)
  (pss_one (ps_for PassesOwn.never rfl (piL (K := K) rfl (pe_ix (ixL (K := K) rfl) (pe_h h_beside hr pass0 (pa_cons (pv 0) pa_nil)) (pv 5) (fun _ _ => rfl))) (pgT (K := K) (n := 2) rfl rfl (pgs_cons (pg_name (i := 6) sc_is_burning_order.nd rfl (.inl rfl)) (pgs_cons (pg_name (i := 7) sc_is_burning_order.nd rfl (.inl rfl)) pgs_nil))) (pss_one (ps_asg (pe_op op_add (pe_ix (ixL (K := K) rfl) (pv 4) (pv 6) (fun _ _ => rfl)) (pv 7)) (pg_sub (pv 4) (pv 6) set_list)))))))
  (pss_one (ps_ret pe_bl))))), ?_⟩
    have edg := gr.edg
    have good := gr.2.1
    have hn64 : n ≤ 64 := gr.2.2.2.1
    have he4 := gr.2.2.2.2.1
    have lO : O.length = n := by rw [ob.pm.length_eq, List.length_range]
    have bO : ∀ u, u ∈ O → u < n := fun u hu => List.mem_range.mp (ob.pm.mem_iff.mp hu)
    obtain ⟨⟨dx, eT, vs, hg, _, _, rg, _, _⟩, _⟩ := id gr
    obtain ⟨kvs, hkd⟩ := gr.kdo
    have ho' : SqT K H o ((O.map fun n : Nat => (n : Int)).map V.int) := by rw [← nV_ints]; exact SqT.of ho
    refine ⟨_, rfl, _, rfl, g, C, dx, _, _, rfl, hg, G.cls, G.n, rfl, ?_⟩
    refine ⟨o, n, _, rfl, ho', by rw [List.length_map, lO], by omega, fun H1 s1 => ?_⟩
    refine ⟨_, rfl, ?_⟩
    refine iteF ?_
    refine ⟨_, rfl, o, _, rfl, Same.seqT s1 ho', fun ns' A1 pm so nA1 => ?_⟩
    have ens := sorted_range ob.pm pm so
    subst ens
    have s2 := s1.trans (same_upd (o := .lst (((List.range n).map fun n : Nat => (n : Int)).map V.int)) nA1)
    have hA1 : (upd H1 A1 (.lst (((List.range n).map fun n : Nat => (n : Int)).map V.int))) A1 = some (.lst (((List.range n).map fun n : Nat => (n : Int)).map V.int)) := upd_same
    generalize upd H1 A1 (.lst (((List.range n).map fun n : Nat => (n : Int)).map V.int)) = H2 at s2 hA1 ⊢
    refine ⟨_, rfl, g, C, dx, _, _, rfl, s2 _ _ hg, G.cls, G.n, rfl, n, rfl, .of_le (by decide) (by omega) (by decide) (by omega), fun A2 nA2 => ?_⟩
    have en : rgV 0 (n : Int) = (List.range n).map nV := rgV_nat (m := (n : Int)) |>.trans (by rfl)
    rw [en]
    have s3 := s2.trans (same_upd (o := .lst ((List.range n).map nV)) nA2)
    have hA2 : (upd H2 A2 (.lst ((List.range n).map nV))) A2 = some (.lst ((List.range n).map nV)) := upd_same
    have hA1' := (same_upd (o := .lst ((List.range n).map nV)) nA2) _ _ hA1
    generalize upd H2 A2 (.lst ((List.range n).map nV)) = H3 at s3 hA2 hA1' ⊢
    refine ⟨.list (((List.range n).map fun n : Nat => (n : Int)).map PyData.int), .list (((List.range n).map fun n : Nat => (n : Int)).map PyData.int), .lst (SqL.of hA1') (dp_intsX _), .lst (SqL.of (by rw [hA2, nV_ints])) (dp_intsX _), shaped_intsX _, shaped_intsX _, ?_⟩
    rw [eqv_intsX, decide_eq_true rfl]
    refine ⟨_, rfl, ?_⟩
    refine iteF ?_
    have st3 := (StX.refl gr).alloc s3
    have ho3 := s3 _ _ ho
    refine ⟨_, rfl, _, _, 0, nV p, rfl, rfl, SqT.of ho3, atI_nat (j := 0) (by rw [List.getElem?_map, ob.hd]; rfl), _, rfl, rfl, _, rfl, ?_⟩
    refine ifN (fun e => absurd rfl e) fun _ => ?_
    refine nx_ ?_
    -- heat
    have hg3 := s3 _ _ hg
    refine ⟨by show 1 ≤ sizeLine; decide, fun r0 nr0 => ?_⟩
    have a1 : Same H3 (upd H3 r0 (.lst [.int 0])) := same_upd nr0
    have hr0 : (upd H3 r0 (.lst [.int 0])) r0 = some (.lst [.int 0]) := upd_same
    refine ⟨_, rfl, g, C, dx, _, _, rfl, a1 _ _ hg3, G.cls, G.n, rfl, ?_⟩
    refine ⟨r0, n, [.int 0], rfl, rfl, hr0, by omega, by omega, size_le (by show 1 * _ ≤ _; omega), fun L1 nL1 => ?_⟩
    rw [Int.toNat_natCast, rep_range]
    have s4 := s3.trans (a1.trans (same_upd (o := .lst ((List.range n).map fun _ => .int 0)) nL1))
    have nL0 : H L1 = none := (s3.trans a1).free nL1
    have hL1 : (upd (upd H3 r0 (.lst [.int 0])) L1 (.lst ((List.range n).map fun _ => .int 0))) L1 = some (.lst ((List.range n).map fun _ => .int 0)) := upd_same
    generalize upd (upd H3 r0 (.lst [.int 0])) L1 (.lst ((List.range n).map fun _ => .int 0)) = H4 at s4 hL1 ⊢
    refine nx_ ?_
    have st4 : StX m C g kd n es (fun x => x = L1) H R H4 R := by
      refine ((StX.refl gr).alloc s4).wide (fun x z => z.elim) fun x z => ?_
      obtain rfl := z
      exact ⟨fun r => gr.in_ r nL0, fun z => gr.kdn (z ▸ nL0), by rw [hL1]; exact fun z => nomatch z⟩
    have nX : ∀ x, H x ≠ none → ¬ (x = L1) := fun x h z => h (z ▸ nL0)
    have hcn : H c ≠ none := by rw [hc]; exact fun z => nomatch z
    have hon : H o ≠ none := by rw [ho]; exact fun z => nomatch z
    -- for at in order
    refine ⟨_, rfl, o, rfl, ⟨_, SqT.of (s4 _ _ ho)⟩, ?_⟩
    refine for_tup (K := K) (a := o) (xs := O.map nV) (fun i σ H' => ∃ (y5 y6 y7 : Option V) (R' : Addr → Prop), σ = [some (.ref g), some (.ref c), some (nV p), some (.ref o), some (.ref L1), y5, y6, y7] ∧ StX m C g kd n es (fun x => x = L1) H R H' R' ∧ H' L1 = some (.lst (rowF n (hO es (O.take i))))) ?_ ?_ ?_ ?_
    · exact ⟨_, _, _, R, rfl, st4, hL1⟩
    · rintro i σ H' _ ⟨_, _, _, R', _, st, _⟩
      exact SqT.of (st.tup gr (nX o hon) ho)
    · rintro i v σ H5 hv ⟨y5, y6, y7, R5, rfl, st5, hL5⟩
      have hi : i < O.length := by have := (List.getElem?_eq_some_iff.mp hv).1; rwa [List.length_map] at this
      rw [List.getElem?_map, List.getElem?_eq_getElem hi] at hv
      obtain rfl := Option.some.inj hv
      have hxn : O[i] < n := bO _ (List.getElem_mem hi)
      have hc5 := st5.tup gr (nX c hcn) hc
      generalize ex : O[i] = x at hxn
      refine ⟨fun σ H' => σ = [some (.ref g), some (.ref c), some (nV p), some (.ref o), some (.ref L1), some (nV x), y6, y7] ∧ H' = H5, ?_, ?_⟩
      · refine ⟨_, rfl, _, rfl, rfl, _, rfl, ifN (fun ne => ?_) (fun e => ?_)⟩
        · have ne : x ≠ p := fun z => ne (congrArg nV z)
          have i0 : 0 < i := Nat.pos_of_ne_zero fun z => by
            subst z
            have h1 := ob.hd
            rw [List.getElem?_eq_getElem hi] at h1
            exact ne (ex.symm.trans (Option.some.inj h1))
          have ht := ob.hot i hi i0
          rw [ex] at ht
          refine ⟨_, rfl, _, rfl, _, _, x, _, rfl, rfl, SqL.of hL5, atI_nat (rowF_get hxn), _, rfl, _, rfl, _, _, x, _, rfl, rfl, SqT.of hc5, atI_nat (rowF_get hxn), _, _, rfl, rfl, _, rfl, ifD (fun z => absurd z (by omega)) (fun _ => ⟨rfl, rfl⟩)⟩
        · exact ⟨rfl, rfl⟩
      rintro σ H' ⟨rfl, rfl⟩
      -- the others grow warm
      refine ⟨_, rfl, g, kd, R5, n, es, rfl, st5.gr, fun H7 R7 v b7 gr7 up7 fr7 bes => ?_⟩
      have st7 := st5.call (stp_of b7 gr7 up7 fr7)
      obtain ⟨LB, ls, rfl, rLB, hLB, lls, hls⟩ := bes
      have hL7 := b7 _ _ (st5.own L1 rfl).2.1 hL5
      have ip : x < ls.length := by omega
      obtain ⟨ra, ws, l, k1, rt, k2, k3⟩ := hls x _ (List.getElem?_eq_getElem ip)
      have nrX : ∀ y, R7 y → ¬ (y = L1) := fun y r z => (st7.own y z).1 r
      refine ⟨_, rfl, LB, _, x, .ref ls[x], rfl, rfl, SqL.of hLB, atI_nat (rows_get ip), ls[x], rfl, ⟨_, SqL.of k1⟩, ?_⟩
      refine for_list (K := K) (a := ls[x]) (xs := ws) (fun k σ H' => ∃ (y6 y7 : Option V), σ = [some (.ref g), some (.ref c), some (nV p), some (.ref o), some (.ref L1), some (nV x), y6, y7] ∧ StX m C g kd n es (fun x => x = L1) H R H' R7 ∧ But (fun x => x = L1) H7 H' ∧ H' L1 = some (.lst (rowF n fun v => hO es (O.take i) v + lineH (l.take k) v))) ?_ ?_ ?_ ?_
      · refine ⟨_, _, rfl, st7, But.refl, ?_⟩
        rw [hL7]
        congr 2
        refine rowF_congr fun v _ => ?_
        show _ = _ + (0 : Int)
        rw [Int.add_zero]
      · rintro k σ H' _ ⟨_, _, _, _, bt, _⟩
        exact SqL.of (bt _ _ (nrX _ ra) k1)
      · rintro k y σ H' hy ⟨y6, y7, rfl, sx, bt, hL'⟩
        have hk : k < l.length := by rw [← k2.len]; exact (List.getElem?_eq_some_iff.mp hy).1
        obtain ⟨t, e1, e2⟩ := k2.get hk
        rw [hy] at e1
        obtain rfl := Option.some.inj e1
        have ht := bt _ _ (nrX _ (rt t (List.mem_of_getElem? hy))) e2
        have hm : l[k].2 = mult es x l[k].1 ∧ 0 < mult es x l[k].1 := (k3.2 l[k].1 l[k].2).mp (List.getElem_mem hk)
        have hu : l[k].1 < n := mult_pos edg hm.2
        have hke : l[k]? = some l[k] := List.getElem?_eq_getElem hk
        generalize l[k] = e at ht hu hke
        obtain ⟨u, cc⟩ := e
        have et : ∀ v, lineH (l.take (k + 1)) v = lineH (l.take k) v + if u = v then (cc : Int) else 0 := fun v => by
          rw [List.take_add_one, hke]
          exact lineH_snoc
        refine ⟨t, _, rfl, SqT.of ht, rfl, _, _, rfl, _, _, rfl, rfl, ?_⟩
        refine ⟨_, rfl, _, rfl, _, _, u, _, rfl, rfl, SqL.of hL', atI_nat (rowF_get hu), _, rfl, _, _, rfl, rfl, ?_⟩
        refine ⟨_, rfl, _, rfl, L1, _, _, u, rfl, rfl, hL', Evl.ixN_nat (by rw [rowF_len]; exact hu), ?_⟩
        rw [rowF_set, rowF_congr (f := fun v => if v = u then hO es (O.take i) u + lineH (l.take k) u + (cc : Int) else hO es (O.take i) v + lineH (l.take k) v) (g := fun v => hO es (O.take i) v + lineH (l.take (k + 1)) v) fun v hv => by
          rw [et]
          by_cases d : v = u
          · subst d
            rw [if_pos rfl, if_pos rfl, Int.add_assoc]
          · rw [if_neg d, if_neg (fun z : u = v => d z.symm), Int.add_zero]]
        exact ⟨_, _, rfl, sx.set rfl, bt.trans (But.mut rfl), upd_same⟩
      · rintro σ H8 ⟨y6, y7, rfl, st8, bt, hL8⟩
        rw [k2.len, List.take_length] at hL8
        refine ⟨_, _, _, R7, rfl, st8, ?_⟩
        rw [hL8]
        congr 2
        refine rowF_congr fun v hv => ?_
        rw [lineH_end k3 (fun u hu => mult_pos edg hu) hv, List.take_add_one, List.getElem?_eq_getElem hi, ex]
        exact hO_snoc.symm
    · rintro σ H8 ⟨y5, y6, y7, R8, rfl, st8, hL8⟩
      exact q H8 R8 (st8.drop fun x z => z ▸ nL0)
end
end G3

set_option Elab.async false
set_option linter.all false
set_option maxRecDepth 100000
set_option maxHeartbeats 4000000
namespace G3
open PySem PySem.Spec PyProof.Rows L2
section
variable {P : Program} {w : World} {K : PySem.W.Frag} {mg : Str → Option Value} {base : Heap} {C : Addr}
abbrev n_shows_reduced : List Str := ["graph", "chips", "place", "told", "paper", "first", "at", "many"]
abbrev p_shows_reduced : List Str := ["graph", "chips", "place", "told", "paper"]
theorem sc_shows_reduced : FnScope n_shows_reduced p_shows_reduced (defScope s_shows_reduced) := ⟨rfl, rfl, rfl, by decide +kernel, rfl, by decide +kernel, by decide +kernel⟩
def spShow (m : Memo) (K : PySem.W.Frag) (C : Addr) : Sp := fun vs H Q _ => ∃ (g kd a t pp S X : Addr) (R : Addr → Prop) (n : Nat) (es : List Pr) (cs ts s : Nat → Int) (p : Nat) (O : List Nat), vs = [.ref g, .ref a, nV p, .ref t, .ref pp] ∧ Gr m H C g kd R n es ∧ (SqL K H a (rowF n cs) ∨ SqT K H a (rowF n cs)) ∧
  H t = some (.tup (rowF n ts)) ∧ H pp = some (.tup [.ref S, .ref X]) ∧ H S = some (.tup (rowF n s)) ∧ H X = some (.tup (O.map nV)) ∧ p < n ∧
  (((∀ v, v < n → ts v = cs v - lapF n es s v) ∧ (∀ v, v < n → v ≠ p → 0 ≤ ts v) ∧ OrdB n es ts p O ∧ ∀ (H' : Hp) (R' : Addr → Prop), Stp m C g kd n es H R H' R' → Q (.bl true) H') ∨
   ((∃ v, v < n ∧ ts v ≠ cs v - lapF n es s v) ∧ ∀ (H' : Hp) (R' : Addr → Prop), Stp m C g kd n es H R H' R' → Q (.bl false) H'))
theorem ok_shows_reduced {m : Memo} (D : DefAt K mg "shows_reduced" "shows_reduced" s_shows_reduced) (B : Bt mg) (G : GraphC K C) (h_told_sum : Has P w K mg base CX0 2 "told_sum" p_told_sum (spTellF m K C)) (h_check_place : Has P w K mg base CX0 2 "check_place" p_check_place (spChk m C))
    (h_is_whole_row : Has P w K mg base CX0 2 "is_whole_row" p_is_whole_row (spWR K)) (h_led : Has P w K mg base CX0 3 "led" p_led (spLedG m C)) (h_is_burning_order : Has P w K mg base CX0 3 "is_burning_order" p_is_burning_order (spBOr m K C)) : Has P w K mg base CX0 4 "shows_reduced" p_shows_reduced (spShow m K C) := by
  refine has_of D sc_shows_reduced (fun _ _ _ _ _ _ us hl => match us, hl with | [_, _, _, _, _], _ => rfl) (fun vs H Q E h => ?_) (fun f cdv A outer s H vs Q E hr h => ?_)
  · obtain ⟨g, kd, a, t, pp, S, X, R, n, es, cs, ts, sc, p, O, rfl, _⟩ := h
    rfl
  · obtain ⟨g, kd, a, t, pp, S, X, R, n, es, cs, ts, sc, p, O, rfl, gr, hc, ht, hpp, hS, hX, hp, q⟩ := h
    refine ⟨_, (pss_cons (ps_set (i := 5) sc_shows_reduced.nd rfl (.inl rfl) (pe_h h_told_sum hr pass0 (pa_cons (pv 0) (pa_cons (pv 1) pa_nil))))
  (pss_cons (ps_expr (pe_h h_check_place hr pass0 (pa_cons (pv 0) (pa_cons (pv 2) pa_nil))))
  (pss_cons (ps_if (PW.pt (pw_or (pt_not (pt_val (pe_h h_is_whole_row hr pass0 (pa_cons (pv 3) (pa_cons (fldK (K := K) rfl (pv 0) rfl) pa_nil))))) (pw_or (pt_not (pt_val (pe_callB (isiK (K := K) rfl) rfl B.isinstance (by decide +kernel) (pa_cons (pv 4) (pa_cons (pe_bltn (v := .ty "tuple") (u := .type "tuple") rfl B.tuple (by decide +kernel) rfl) pa_nil))))) (pw_or1 (pt_cmpR op_ne (pe_callB (lenK (K := K) rfl) rfl B.len PySem.boot_len (pa_cons (pv 4) pa_nil)) pe_int (nomark _)))))) (pss_one (ps_ret pe_bl)) pss_nil)
  (pss_cons (ps_if (PW.pt (pw_or (pt_not (pt_val (pe_h h_is_whole_row hr pass0 (pa_cons (pe_ix (ixT (K := K) rfl) (pv 4) pe_int (fun _ _ => rfl)) (pa_cons (fldK (K := K) rfl (pv 0) rfl) pa_nil))))) (pw_or1 (pt_cmpR (op_neD hr.units) (pe_h h_led hr pass0 (pa_cons (pv 0) (pa_cons (pv 5) (pa_cons (pe_ix (ixT (K := K) rfl) (pv 4) pe_int (fun _ _ => rfl)) pa_nil)))) (pe_callTy (listK (K := K) rfl) rfl B.list (by decide +kernel) (pa_cons (pv 3) pa_nil)) (nomark _))))) (pss_one (ps_ret pe_bl)) pss_nil)
  (pss_cons (ps_if (pt_val (pe_callB (anyK (K := K) rfl rfl) rfl B.any (by decide +kernel) (pa_cons (pe_lc (own := [("at", 6), ("many", 7)]) (g := _) (tt := _) rfl sc_shows_reduced.nd (pi_enumR (K := K) rfl rfl B.enumerate (pa_cons (pv 3) pa_nil)) (blkOk_by (N := n_shows_reduced) (sc := defScope s_shows_reduced) (by decide +kernel)) (fun _ _ _ _ _ => (pgT (K := K) (n := 2) rfl rfl (pgs_cons (pg_name (i := 6) sc_shows_reduced.nd rfl (.inl rfl)) (pgs_cons (pg_name (i := 7) sc_shows_reduced.nd rfl (.inl rfl)) pgs_nil)))) (fun _ _ _ _ _ => (pts_one (pt_cmpR op_ne (pv 6) (pv 2) (nomark _)))) (fun _ _ _ _ _ => (pe_cmpR op_lt (pv 7) pe_int (nomark _)))) pa_nil))) (pss_one (ps_ret pe_bl)) pss_nil)
  (pss_one (ps_ret (pe_h h_is_burning_order hr pass0 (pa_cons (pv 0) (pa_cons (pv 3) (pa_cons (pv 2) (pa_cons (pe_ix (ixT (K := K) rfl) (pv 4) pe_int (fun _ _ => rfl)) pa_nil)))))))))))), ?_⟩
    have hn64 : n ≤ 64 := gr.2.2.2.1
    obtain ⟨⟨dx, eT, vs, hg, _, _, rg, _, _⟩, _⟩ := id gr
    refine ⟨_, rfl, _, rfl, g, kd, a, R, n, es, cs, rfl, gr, hc, fun H1 l s1 nl hl => ?_⟩
    have st1 := (StX.refl gr).alloc s1
    refine ⟨_, rfl, _, rfl, g, kd, R, n, es, p, rfl, st1.gr, hp, ?_⟩
    refine ⟨_, rfl, _, rfl, g, C, dx, _, _, rfl, s1 _ _ hg, G.cls, G.n, rfl, ?_⟩
    refine ⟨t, n, (List.range n).map ts, rfl, by rw [← rowF_map]; exact SqT.of (s1 _ _ ht), by rw [List.length_map, List.length_range], by omega, fun H2 s12 => ?_⟩
    have s2 := s1.trans s12
    have hpp2 := s2 _ _ hpp
    refine ⟨_, rfl, ?_⟩
    refine iteF ?_
    refine ⟨_, rfl, _, _, _, _, _, rfl, .ty _, ty_t (SqT.of hpp2), kt_tuple (.tuple []), _, rfl, ?_⟩
    refine iteF ?_
    refine ⟨_, rfl, _, 2, rfl, .inr ⟨_, SqT.of hpp2, rfl⟩, rfl, _, rfl, ifN (fun e => absurd rfl e) fun _ => ?_⟩
    refine nx_ ?_
    -- the script
    refine ⟨_, rfl, _, _, 0, .ref S, rfl, rfl, SqT.of hpp2, rfl, ?_⟩
    refine ⟨_, rfl, g, C, dx, _, _, rfl, s2 _ _ hg, G.cls, G.n, rfl, ?_⟩
    refine ⟨S, n, (List.range n).map sc, rfl, by rw [← rowF_map]; exact SqT.of (s2 _ _ hS), by rw [List.length_map, List.length_range], by omega, fun H3 s3 => ?_⟩
    have s3' := s2.trans s3
    refine ⟨_, rfl, ?_⟩
    refine iteF ?_
    have st3 := (StX.refl gr).alloc s3'
    refine ⟨_, rfl, _, rfl, _, rfl, _, _, 0, .ref S, rfl, rfl, SqT.of (s3' _ _ hpp), rfl, ?_⟩
    refine ⟨g, kd, l, S, R, n, es, cs, sc, rfl, st3.gr, s3 _ _ (s12 _ _ hl), .inr (s3' _ _ hS), fun H4 R4 L c4 nL nRL hL => ?_⟩
    have st4 := st3.call c4
    have ht4 := st4.tup gr (fun z => z) ht
    refine ⟨_, rfl, t, _, rfl, .inr (SqT.of ht4), fun A4 nA4 => ?_⟩
    have a4 := same_upd (o := HO.lst (rowF n ts)) nA4
    have hA4 : (upd H4 A4 (.lst (rowF n ts))) A4 = some (.lst (rowF n ts)) := upd_same
    generalize upd H4 A4 (.lst (rowF n ts)) = H5 at a4 hA4 ⊢
    have st5 := st4.alloc a4
    refine ⟨.list (((List.range n).map fun v => cs v - lapF n es sc v).map PyData.int), .list (((List.range n).map ts).map PyData.int), .lst (SqL.of (by rw [a4 _ _ hL, rowF_map])) (dp_intsX _), .lst (SqL.of (by rw [hA4, rowF_map])) (dp_intsX _), shaped_intsX _, shaped_intsX _, ?_⟩
    rw [eqv_intsX]
    refine ⟨_, rfl, ?_⟩
    rcases q with ⟨q1, q2, q3, q⟩ | ⟨⟨v, hv, hne⟩, q⟩
    · rw [decide_eq_true (List.map_congr_left fun v hv => (q1 v (List.mem_range.mp hv)).symm)]
      refine iteF ?_
      refine nx_ ?_
      have ht5 := a4 _ _ ht4
      refine ⟨_, rfl, t, rfl, .inr ⟨⟨_, SqT.of ht5⟩, fun A0 nA => ?_⟩⟩
      refine lc_it (walk_enumX (K := K) (a := t) (xs := rowF n ts)) (fun i H6 => Same H5 H6 ∧ H6 A0 = some (.lst ((((List.range i).filter fun v => decide (v ≠ p)).map fun v => decide (ts v < 0)).map V.bl))) ⟨same_upd nA, upd_same⟩ (fun i H6 _ p => SqT.of (p.1 _ _ ht5)) ?_ ?_
      · rintro i v H6 H7 hi ⟨s6, hA⟩ ⟨T, x, y, rfl, nT, rfl, hx, hy⟩
        obtain rfl : V.int (i : Nat) = x := Option.some.inj hx
        have hi : i < n := by rw [rowF_len] at hi; exact hi
        have hy : (rowF n ts)[i]? = some y := hy
        rw [rowF_get hi] at hy
        obtain rfl := Option.some.inj hy
        have sT : Same H6 (upd H6 T (.tup [.int (i : Nat), .int (ts i)])) := same_upd nT
        have ef : (List.range (i + 1)).filter (fun v => decide (v ≠ p)) = (List.range i).filter (fun v => decide (v ≠ p)) ++ if i ≠ p then [i] else [] := by
          rw [List.range_succ, List.filter_append, List.filter_cons]
          by_cases e : i = p
          · rw [if_neg (by rw [decide_eq_false (fun z => z e)]; exact Bool.false_ne_true), if_neg (fun z => z e)]; rfl
          · rw [if_pos (decide_eq_true e), if_pos e]; rfl
        refine ⟨T, _, rfl, SqT.of upd_same, rfl, _, _, rfl, _, _, rfl, rfl, rfl, ?_⟩
        refine ⟨_, rfl, _, rfl, rfl, _, rfl, ifN (fun ne => ?_) (fun e => ?_)⟩
        · have ne : i ≠ p := fun z => ne (congrArg nV z)
          refine ⟨_, rfl, _, _, rfl, rfl, ?_⟩
          refine ⟨_, sT _ _ hA, size_lt ?_, same_mut (s6.trans sT) nA, ?_⟩
          · rw [List.length_map, List.length_map]
            have := List.length_filter_le (fun v => decide (v ≠ p)) (List.range i)
            rw [List.length_range] at this
            omega
          · rw [upd_same, ef, if_pos ne, List.map_append, List.map_append]; rfl
        · have e : i = p := by
            have e : nV i = nV p := e
            injection e with e; omega
          refine ⟨s6.trans sT, ?_⟩
          rw [ef, if_neg (fun z => z e), List.append_nil]
          exact sT _ _ hA
      rintro H6 ⟨s6, hA⟩
      rw [rowF_len] at hA
      refine ⟨A0, _, rfl, SqL.of hA, ?_⟩
      have hany : ((((List.range n).filter fun v => decide (v ≠ p)).map fun v => decide (ts v < 0)).any id) = false := by
        rw [List.any_eq_false]
        intro b hb
        obtain ⟨v, hv, rfl⟩ := List.mem_map.mp hb
        obtain ⟨h1, h2⟩ := List.mem_filter.mp hv
        have := q2 v (List.mem_range.mp h1) (of_decide_eq_true h2)
        intro z
        have := of_decide_eq_true z
        omega
      refine ⟨_, rfl, ?_⟩
      rw [hany]
      refine iteF ?_
      refine nx_ ?_
      have st6 := st5.alloc s6
      have hpp6 := st6.tup gr (fun z => z) hpp
      refine ⟨_, rfl, _, rfl, _, rfl, _, rfl, _, _, 1, .ref X, rfl, rfl, SqT.of hpp6, rfl, ?_⟩
      exact ⟨g, kd, t, X, R4, n, es, ts, p, O, rfl, st6.gr, st6.tup gr (fun z => z) ht, st6.tup gr (fun z => z) hX, hp, q3, fun H7 R7 c7 => q H7 R7 (st6.call c7)⟩
    · rw [decide_eq_false (fun e => hne (by
        have := congrArg (fun l => l[v]?) e
        simp only [List.getElem?_map, List.getElem?_range hv] at this
        exact (Option.some.inj this).symm))]
      exact iteT (q _ _ st5)
end
end G3

set_option Elab.async false
set_option linter.all false
set_option maxRecDepth 100000
set_option maxHeartbeats 4000000
namespace G3
open PySem PySem.Spec PyProof.Rows L2
theorem row_filter {α : Type} {S : Nat → Bool} {f : Nat → α} {j : Nat} : ((List.range (j + 1)).filter S).map f = ((List.range j).filter S).map f ++ if S j = true then [f j] else [] := by
  rw [List.range_succ, List.filter_append, List.map_append, List.filter_cons]
  by_cases c : S j = true
  · rw [if_pos c, if_pos c]; rfl
  · rw [if_neg c, if_neg c]; rfl
/-! ## n rounds of fire burn all that burns -/
def burnR (n : Nat) (es : List Pr) (cs : Nat → Int) (p : Nat) : Nat → Nat → Bool
  | 0, v => decide (v = p)
  | t + 1, v => burnR n es cs p t v || decide (cs v < heatS n es (burnR n es cs p t) v)
theorem burnR_all {n : Nat} {es : List Pr} {cs : Nat → Int} {p : Nat} (b : Burns n es cs p) (hp : p < n) : ∀ v, v < n → burnR n es cs p n v = true := by
  have up : ∀ t v, burnR n es cs p t v = true → burnR n es cs p (t + 1) v = true := fun t v h => by
    show (burnR n es cs p t v || _) = true
    rw [h, Bool.true_or]
  have hpp : ∀ t, burnR n es cs p t p = true := fun t => by
    induction t with
    | zero => exact decide_eq_true rfl
    | succ t ih => exact up t p ih
  have key : ∀ t : Nat, (∀ v, v < n → burnR n es cs p t v = true) ∨ ((t : Int) + 1 ≤ sumI n fun v => if burnR n es cs p t v = true then 1 else 0) := fun t => by
    induction t with
    | zero =>
      refine .inr ?_
      rw [sumI_congr (g := fun v => if v = p then (fun _ => (1 : Int)) v else 0) fun v _ => by
        show (if decide (v = p) = true then (1 : Int) else 0) = if v = p then 1 else 0
        by_cases c : v = p
        · rw [if_pos c, if_pos (decide_eq_true c)]
        · rw [if_neg c, if_neg (by rw [decide_eq_false c]; exact Bool.false_ne_true)]]
      rw [sumI_delta (f := fun _ => (1 : Int)) hp]
      omega
    | succ t ih =>
      rcases ih with ih | ih
      · exact .inl fun v hv => up t v (ih v hv)
      · by_cases hw : ∃ w, w < n ∧ burnR n es cs p t w = false ∧ cs w < heatS n es (burnR n es cs p t) w
        · obtain ⟨w, hw, w1, w2⟩ := hw
          refine .inr ?_
          have : sumI n (fun v => (if burnR n es cs p t v = true then (1 : Int) else 0) + if v = w then (fun _ => (1 : Int)) v else 0) ≤ sumI n fun v => if burnR n es cs p (t + 1) v = true then 1 else 0 := sumI_le fun v hv => by
            by_cases c : v = w
            · subst c
              rw [if_pos rfl, if_neg (by rw [w1]; exact Bool.false_ne_true), if_pos (show burnR n es cs p (t + 1) v = true by show (_ || decide _) = true; rw [decide_eq_true w2, Bool.or_true])]
              show (0 : Int) + 1 ≤ 1
              omega
            · rw [if_neg c, Int.add_zero]
              by_cases d : burnR n es cs p t v = true
              · rw [if_pos d, if_pos (up t v d)]; exact Int.le_refl _
              · rw [if_neg d]
                split <;> omega
          rw [sumI_add, sumI_delta (f := fun _ => (1 : Int)) hw] at this
          omega
        · refine .inl fun v hv => up t v ?_
          refine b (burnR n es cs p t) ⟨hpp t, fun w hw' hf => ?_⟩ v hv
          rcases Int.lt_or_le (cs w) (heatS n es (burnR n es cs p t) w) with c | c
          · exact absurd ⟨w, hw', hf, c⟩ hw
          · exact c
  rcases key n with h | h
  · exact h
  · exfalso
    have : sumI n (fun v => if burnR n es cs p n v = true then (1 : Int) else 0) ≤ sumI n fun _ => 1 := sumI_le fun v _ => by split <;> omega
    rw [sumI_one] at this
    omega
theorem heat_list {n : Nat} {es : List Pr} {S : Nat → Bool} {v : Nat} : (((List.range n).filter S).map fun u => mI es v u).sum = heatS n es S v := by
  unfold heatS
  induction n with
  | zero => rfl
  | succ n ih =>
    rw [List.range_succ, List.filter_append, List.map_append, List.sum_append, ih, sumI_succ, List.filter_cons]
    by_cases c : S n = true
    · rw [if_pos c, if_pos c]
      show _ + (mI es v n + 0) = _
      rw [Int.add_zero]
    · rw [if_neg c, if_neg c]; rfl
section
variable {P : Program} {w : World} {K : PySem.W.Frag} {mg : Str → Option Value} {base : Heap} {C : Addr}
abbrev n_law_burnt : List Str := ["table", "chips", "place", "n", "burnt", "turn", "heat", "at", "v"]
abbrev p_law_burnt : List Str := ["table", "chips", "place"]
theorem sc_law_burnt : FnScope n_law_burnt p_law_burnt (defScope s_law_burnt) := ⟨rfl, rfl, rfl, by decide +kernel, rfl, by decide +kernel, by decide +kernel⟩
abbrev n_law_is_low : List Str := ["table", "chips", "place", "at"]
abbrev p_law_is_low : List Str := ["table", "chips", "place"]
theorem sc_law_is_low : FnScope n_law_is_low p_law_is_low (defScope s_law_is_low) := ⟨rfl, rfl, rfl, by decide +kernel, rfl, by decide +kernel, by decide +kernel⟩
abbrev n_law_is_whole_row : List Str := ["row", "many", "part"]
abbrev p_law_is_whole_row : List Str := ["row", "many"]
theorem sc_law_is_whole_row : FnScope n_law_is_whole_row p_law_is_whole_row (defScope s_law_is_whole_row) := ⟨rfl, rfl, rfl, by decide +kernel, rfl, by decide +kernel, by decide +kernel⟩
abbrev n_law_script : List Str := ["pool", "n", "size", "place"]
abbrev p_law_script : List Str := ["pool", "n"]
theorem sc_law_script : FnScope n_law_script p_law_script (defScope s_law_script) := ⟨rfl, rfl, rfl, by decide +kernel, rfl, by decide +kernel, by decide +kernel⟩
abbrev n_law_is_order : List Str := ["table", "chips", "place", "order", "n", "k", "j"]
abbrev p_law_is_order : List Str := ["table", "chips", "place", "order"]
theorem sc_law_is_order : FnScope n_law_is_order p_law_is_order (defScope s_law_is_order) := ⟨rfl, rfl, rfl, by decide +kernel, rfl, by decide +kernel, by decide +kernel⟩
def bl_row (n : Nat) (S : Nat → Bool) : List V := (List.range n).map fun v => V.bl (S v)
theorem bl_row_get {n i : Nat} {S : Nat → Bool} (h : i < n) : (bl_row n S)[i]? = some (.bl (S i)) := by
  unfold bl_row
  rw [List.getElem?_map, List.getElem?_range h]; rfl
theorem bl_row_succ {n : Nat} {S : Nat → Bool} : bl_row (n + 1) S = bl_row n S ++ [.bl (S n)] := by unfold bl_row; rw [List.range_succ, List.map_append]; rfl
theorem bl_row_len {n : Nat} {S : Nat → Bool} : (bl_row n S).length = n := by unfold bl_row; rw [List.length_map, List.length_range]
def spLB (K : PySem.W.Frag) : Sp := fun vs H Q _ => ∃ (T c : Addr) (as : List Addr) (n : Nat) (es : List Pr) (cs : Nat → Int) (p : Nat), vs = [.ref T, .ref c, nV p] ∧ Rows H T as (fun v => .lst ((tabLine es n v).map V.int)) ∧ as.length = n ∧ n ≤ 64 ∧ es.length ≤ 400 ∧ H c = some (.tup (rowF n cs)) ∧
  ∀ (H' : Hp) (L : Addr), Same H H' → H' L = some (.lst (bl_row n (burnR n es cs p n))) → Q (.ref L) H'
theorem ok_law_burnt (D : DefAt K mg "_law_burnt" "_law_burnt" s_law_burnt) (B : Bt mg) : Has P w K mg base CX0 1 "_law_burnt" p_law_burnt (spLB K) := by
  refine has_of D sc_law_burnt (fun _ _ _ _ _ _ us hl => match us, hl with | [_, _, _], _ => rfl) (fun vs H Q E h => ?_) (fun f cdv A outer s H vs Q E hr h => ?_)
  · obtain ⟨T, c, as, n, es, cs, p, rfl, _⟩ := h
    rfl
  · obtain ⟨T, c, as, n, es, cs, p, rfl, ro, las, hn, hes, hc, q⟩ := h
    refine ⟨_, (pss_cons (ps_set (i := 3) sc_law_burnt.nd rfl (.inr rfl) (pe_callB (lenK (K := K) rfl) rfl B.len PySem.boot_len (pa_cons (pv 0) pa_nil)))
  (pss_cons (ps_set (i := 4) sc_law_burnt.nd rfl (.inr rfl) (pe_lc (own := [("at", 7)]) (g := gName 7) (tt := tYes) rfl sc_law_burnt.nd (pi_range1 rfl B.range (pa_cons (pv 3) pa_nil)) (blkOk_by (N := n_law_burnt) (sc := defScope s_law_burnt) (by decide +kernel)) (fun _ _ _ _ _ => (pg_name (i := 7) sc_law_burnt.nd rfl (.inl rfl))) (fun _ _ _ _ _ => pts_nil) (fun _ _ _ _ _ => (pe_cmpR op_eq (pv 7) (pv 2) (nomark _)))))
  (pss_cons (ps_for PassesOwn.never rfl (pi_range1 rfl B.range (pa_cons (pv 3) pa_nil)) (pg_name (i := 5) sc_law_burnt.nd rfl (.inl rfl)) (pss_cons (ps_set (i := 6) sc_law_burnt.nd rfl (.inr rfl) (pe_lc (own := [("at", 7)]) (g := gName 7) (tt := tYes) rfl sc_law_burnt.nd (pi_range1 rfl B.range (pa_cons (pv 3) pa_nil)) (blkOk_by (N := n_law_burnt) (sc := defScope s_law_burnt) (by decide +kernel)) (fun _ _ _ _ _ => (pg_name (i := 7) sc_law_burnt.nd rfl (.inr rfl))) (fun _ _ _ _ _ => pts_nil) (fun _ _ _ _ _ => (pe_callB (sumK (K := K) rfl rfl) rfl B.sum (by decide +kernel) (pa_cons (pe_lc (own := [("v", 8)]) (g := gName 8) (tt := _) rfl sc_law_burnt.nd (pi_range1 rfl B.range (pa_cons (pv 3) pa_nil)) (blkOk_by (N := n_law_burnt) (sc := _) (by rfl)) (fun _ _ _ _ _ => (pg_name (i := 8) sc_law_burnt.nd rfl (.inl rfl))) (fun _ _ _ _ _ => (pts_one (pt_val (pe_ix (ixL (K := K) rfl) (pv 4) (pv 8) (fun _ _ => rfl))))) (fun _ _ _ _ _ => (pe_ix (ixL (K := K) rfl) (pe_ix (ixL (K := K) rfl) (pv 0) (pv 7) (fun _ _ => rfl)) (pv 8) (fun _ _ => rfl)))) pa_nil)))))
  (pss_one (ps_set (i := 4) sc_law_burnt.nd rfl (.inr rfl) (pe_lc (own := [("at", 7)]) (g := gName 7) (tt := tYes) rfl sc_law_burnt.nd (pi_range1 rfl B.range (pa_cons (pv 3) pa_nil)) (blkOk_by (N := n_law_burnt) (sc := defScope s_law_burnt) (by decide +kernel)) (fun _ _ _ _ _ => (pg_name (i := 7) sc_law_burnt.nd rfl (.inl rfl))) (fun _ _ _ _ _ => pts_nil) (fun _ _ _ _ _ => (pe_or (pe_ix (ixL (K := K) rfl) (pv 4) (pv 7) (fun _ _ => rfl)) (pe_one (pe_cmpR op_gt (pe_ix (ixL (K := K) rfl) (pv 6) (pv 7) (fun _ _ => rfl)) (pe_ix (ixT (K := K) rfl) (pv 1) (pv 7) (fun _ _ => rfl)) (nomark _))))))))))
  (pss_one (ps_ret (pv 4)))))), ?_⟩
    have lenT : (as.map V.ref).length = n := by rw [List.length_map, las]
    have hT : ∀ H', Same H H' → LenV K (.ref T) H' n := fun H' sm => .inl ⟨_, SqL.of (sm _ _ ro.1), lenT.symm⟩
    refine ⟨_, rfl, _, n, rfl, hT _ (Same.refl _), ?_⟩
    refine nx_ ?_
    refine ⟨_, rfl, n, rfl, by omega, by omega, fun L nL => ?_⟩
    refine lc_range (lo := 0) (n := n) (fun i H2 => Same H H2 ∧ H2 L = some (.lst (bl_row i (burnR n es cs p 0)))) ⟨same_upd nL, upd_same⟩ ?_ ?_
    · rintro i H2 hi ⟨sm, hL⟩
      rw [zint0]
      refine ⟨rfl, yes_ ?_⟩
      refine ⟨_, rfl, _, rfl, rfl, _, hL, size_lt (by unfold bl_row; rw [List.length_map, List.length_range]; omega), same_mut sm nL, ?_⟩
      rw [upd_same]
      unfold bl_row
      rw [List.range_succ, List.map_append]
      congr 3
      show [V.bl (decide (nV i = nV p))] = [V.bl (decide (i = p))]
      congr 2
      exact decide_eq_decide.mpr ⟨fun e => by injection e with e; omega, fun e => by rw [e]⟩
    rintro H1 ⟨s1, hL1⟩
    refine nx_ ?_
    refine ⟨_, rfl, n, rfl, by omega, by omega, ?_⟩
    refine for_range (lo := 0) (n := n) (fun t σ H' => ∃ (y5 y6 : Option V) (L : Addr), σ = [some (.ref T), some (.ref c), some (nV p), some (nV n), some (.ref L), y5, y6, none, none] ∧ Same H H' ∧ H' L = some (.lst (bl_row n (burnR n es cs p t)))) ?_ ?_ ?_
    · exact ⟨_, _, L, rfl, s1, hL1⟩
    · rintro t σ H2 ht ⟨y5, y6, L, rfl, s2, hL⟩
      refine ⟨_, rfl, n, rfl, by omega, by omega, fun F nF => ?_⟩
      refine lc_range (lo := 0) (n := n) (fun i H3 => Same H2 H3 ∧ H3 F = some (.lst (rowF i fun v => heatS n es (burnR n es cs p t) v))) ⟨same_upd nF, upd_same⟩ ?_ ?_
      · rintro i H3 hi ⟨s3, hF⟩
        rw [zint0]
        refine ⟨rfl, yes_ ?_⟩
        have s23 := s2.trans s3
        refine ⟨_, rfl, n, rfl, by omega, by omega, fun S nS => ?_⟩
        refine lc_range (lo := 0) (n := n) (fun j H4 => Same H3 H4 ∧ H4 S = some (.lst ((((List.range j).filter (burnR n es cs p t)).map fun u => mI es i u).map V.int))) ⟨same_upd nS, upd_same⟩ ?_ ?_
        · rintro j H4 hj ⟨s4, hS⟩
          rw [zint0]
          have s24 := s23.trans s4
          have ro4 := ro.same s24
          have lI : i < as.length := by omega
          refine ⟨rfl, ?_⟩
          refine ⟨_, rfl, _, rfl, _, _, j, .bl (burnR n es cs p t j), rfl, rfl, SqL.of (s4 _ _ (s3 _ _ hL)) , atI_nat (bl_row_get hj), _, rfl, ?_⟩
          by_cases cb : burnR n es cs p t j = true
          · rw [cb]
            refine iteT ?_
            refine ⟨_, rfl, _, rfl, _, _, i, .ref as[i], rfl, rfl, SqL.of ro4.1, atI_nat (rows_get lI), _, rfl, _, _, j, _, rfl, rfl, SqL.of (ro4.at lI).2, atI_nat (tabLine_get hj), ?_⟩
            refine ⟨_, hS, size_lt (by rw [List.length_map, List.length_map]; have := List.length_filter_le (burnR n es cs p t) (List.range j); rw [List.length_range] at this; omega), same_mut s4 nS, ?_⟩
            rw [upd_same, row_filter, if_pos cb, List.map_append]; rfl
          · rw [Bool.eq_false_iff.mpr cb]
            refine iteF ⟨s4, ?_⟩
            rw [hS, row_filter, if_neg cb, List.append_nil]
        · rintro H4 ⟨s4, hS⟩
          refine tNil_ ?_
          refine ⟨S, _, rfl, SqL.of hS, ?_⟩
          rw [heat_list]
          refine ⟨_, s4 _ _ hF, size_lt (by rw [rowF_len]; omega), same_mut (s3.trans s4) nF, ?_⟩
          rw [upd_same, rowF_succ]
      rintro H3 ⟨s3, hF⟩
      refine nx_ ?_
      have s23 := s2.trans s3
      have hL3 := s3 _ _ hL
      refine ⟨_, rfl, n, rfl, by omega, by omega, fun M nM => ?_⟩
      refine lc_range (lo := 0) (n := n) (fun i H4 => Same H3 H4 ∧ H4 M = some (.lst (bl_row i (burnR n es cs p (t + 1))))) ⟨same_upd nM, upd_same⟩ ?_ ?_
      · rintro i H4 hi ⟨s4, hM⟩
        rw [zint0]
        have s24 := s23.trans s4
        refine ⟨rfl, yes_ ?_⟩
        have fin : ∀ b : Bool, b = burnR n es cs p (t + 1) i → ∃ acc, H4 M = some (.lst acc) ∧ acc.length < sizeLine ∧ (Same H3 (upd H4 M (.lst (acc ++ [.bl b]))) ∧ (upd H4 M (.lst (acc ++ [.bl b]))) M = some (.lst (bl_row (i + 1) (burnR n es cs p (t + 1))))) := fun b e =>
          ⟨_, hM, size_lt (by rw [bl_row_len]; omega), same_mut s4 nM, by rw [upd_same, bl_row_succ, e]⟩
        refine ⟨_, rfl, _, rfl, _, _, i, .bl (burnR n es cs p t i), rfl, rfl, SqL.of (s4 _ _ hL3), atI_nat (bl_row_get hi), _, rfl, ?_⟩
        by_cases cb : burnR n es cs p t i = true
        · rw [cb]
          refine iteT (fin true ?_)
          show true = (burnR n es cs p t i || _)
          rw [cb, Bool.true_or]
        · rw [Bool.eq_false_iff.mpr cb]
          refine iteF ?_
          refine ⟨_, rfl, _, rfl, _, _, i, _, rfl, rfl, SqL.of (s4 _ _ hF), atI_nat (rowF_get hi), _, rfl, _, rfl, _, _, i, _, rfl, rfl, SqT.of (s24 _ _ hc), atI_nat (rowF_get hi), _, _, rfl, rfl, ?_⟩
          refine fin _ ?_
          show _ = (burnR n es cs p t i || _)
          rw [Bool.eq_false_iff.mpr cb, Bool.false_or]
      · rintro H4 ⟨s4, hM⟩
        exact ⟨_, _, M, rfl, s23.trans s4, hM⟩
    · rintro σ H2 ⟨y5, y6, L, rfl, s2, hL⟩
      exact ⟨_, rfl, q H2 L s2 hL⟩
def spLIL (K : PySem.W.Frag) : Sp := fun vs H Q _ => ∃ (T c : Addr) (as : List Addr) (n : Nat) (es : List Pr) (cs : Nat → Int) (p : Nat), vs = [.ref T, .ref c, nV p] ∧ Rows H T as (fun v => .lst ((tabLine es n v).map V.int)) ∧ as.length = n ∧ n ≤ 64 ∧ es.length ≤ 400 ∧ H c = some (.tup (rowF n cs)) ∧ p < n ∧ Low n es cs p ∧
  ∀ (H' : Hp), Same H H' → Q (.bl true) H'
theorem ok_law_is_low (D : DefAt K mg "_law_is_low" "_law_is_low" s_law_is_low) (B : Bt mg) (h_law_burnt : Has P w K mg base CX0 1 "_law_burnt" p_law_burnt (spLB K)) : Has P w K mg base CX0 2 "_law_is_low" p_law_is_low (spLIL K) := by
  refine has_of D sc_law_is_low (fun _ _ _ _ _ _ us hl => match us, hl with | [_, _, _], _ => rfl) (fun vs H Q E h => ?_) (fun f cdv A outer s H vs Q E hr h => ?_)
  · obtain ⟨T, c, as, n, es, cs, p, rfl, _⟩ := h
    rfl
  · obtain ⟨T, c, as, n, es, cs, p, rfl, ro, las, hn, hes, hc, hp, low, q⟩ := h
    refine ⟨_, (pss_one (ps_ret (pe_and (pe_callB (allK (K := K) rfl rfl) rfl B.all (by decide +kernel) (pa_cons (pe_lc (own := [("at", 3)]) (g := gName 3) (tt := _) rfl sc_law_is_low.nd (pi_range1 rfl B.range (pa_cons (pe_callB (lenK (K := K) rfl) rfl B.len PySem.boot_len (pa_cons (pv 0) pa_nil)) pa_nil)) (blkOk_by (N := n_law_is_low) (sc := defScope s_law_is_low) (by decide +kernel)) (fun _ _ _ _ _ => (pg_name (i := 3) sc_law_is_low.nd rfl (.inl rfl))) (fun _ _ _ _ _ => (pts_one (pt_cmpR op_ne (pv 3) (pv 2) (nomark _)))) (fun _ _ _ _ _ => (pe_cmpR op_ge (pe_ix (ixT (K := K) rfl) (pv 1) (pv 3) (fun _ _ => rfl)) pe_int (nomark _)))) pa_nil)) (pe_one (pe_callB (allK (K := K) rfl rfl) rfl B.all (by decide +kernel) (pa_cons (pe_h h_law_burnt hr pass0 (pa_cons (pv 0) (pa_cons (pv 1) (pa_cons (pv 2) pa_nil)))) pa_nil)))))), ?_⟩
    have lenT : (as.map V.ref).length = n := by rw [List.length_map, las]
    refine ⟨_, rfl, _, n, rfl, .inl ⟨_, SqL.of ro.1, lenT.symm⟩, n, rfl, by omega, by omega, fun L nL => ?_⟩
    refine lc_range (lo := 0) (n := n) (fun i H2 => Same H H2 ∧ H2 L = some (.lst ((((List.range i).filter fun v => decide (v ≠ p)).map fun _ => true).map V.bl))) ⟨same_upd nL, upd_same⟩ ?_ ?_
    · rintro i H2 hi ⟨sm, hL⟩
      rw [zint0]
      refine ⟨rfl, ?_⟩
      refine ⟨_, rfl, _, rfl, rfl, _, rfl, ifN (fun ne => ?_) (fun e => ?_)⟩
      · have ne : i ≠ p := fun z => ne (congrArg nV z)
        refine ⟨_, rfl, _, rfl, _, _, i, _, rfl, rfl, SqT.of (sm _ _ hc), atI_nat (rowF_get hi), _, _, rfl, rfl, ?_⟩
        refine ⟨_, hL, size_lt (by rw [List.length_map, List.length_map]; have := List.length_filter_le (fun v => decide (v ≠ p)) (List.range i); rw [List.length_range] at this; omega), same_mut sm nL, ?_⟩
        rw [upd_same, row_filter, if_pos (decide_eq_true ne), List.map_append]
        show some (HO.lst (_ ++ [V.bl (decide (0 ≤ cs i))])) = _
        rw [decide_eq_true (low.1 i hi ne)]; rfl
      · have e : i = p := by
          have e : nV i = nV p := e
          injection e with e; omega
        refine ⟨sm, ?_⟩
        rw [hL, row_filter, if_neg (fun z => (of_decide_eq_true z) e), List.append_nil]
    rintro H2 ⟨s2, hL⟩
    refine tNil_ ?_
    have e1 : ((((List.range n).filter fun v => decide (v ≠ p)).map fun _ => true).all id) = true := by
      rw [List.all_eq_true]
      intro b hb
      obtain ⟨_, _, rfl⟩ := List.mem_map.mp hb
      rfl
    refine ⟨L, _, rfl, SqL.of hL, ?_⟩
    rw [e1]
    refine ⟨_, rfl, ?_⟩
    refine iteT ?_
    refine ⟨_, rfl, _, rfl, _, rfl, T, c, as, n, es, cs, p, rfl, ro.same s2, las, hn, hes, s2 _ _ hc, fun H3 M s3 hM => ?_⟩
    have eb : bl_row n (burnR n es cs p n) = (List.replicate n true).map V.bl := by
      apply List.ext_getElem?
      intro i
      by_cases hi : i < n
      · rw [bl_row_get hi, burnR_all low.2 hp i hi, List.getElem?_map, List.getElem?_replicate, if_pos hi]; rfl
      · rw [List.getElem?_eq_none (by rw [bl_row_len]; omega), List.getElem?_eq_none (by rw [List.length_map, List.length_replicate]; omega)]
    rw [eb] at hM
    refine ⟨M, _, rfl, SqL.of hM, ?_⟩
    rw [all_rep]
    exact q _ (s2.trans s3)
theorem ok_law_is_whole_row (D : DefAt K mg "_law_is_whole_row" "_law_is_whole_row" s_law_is_whole_row) (B : Bt mg) (h_law_is_integer : Has P w K mg base CX0 1 "_law_is_integer" p_law_is_integer (spIsI K)) : Has P w K mg base CX0 2 "_law_is_whole_row" p_law_is_whole_row (spWR K) := by
  refine has_of D sc_law_is_whole_row (fun _ _ _ _ _ _ us hl => match us, hl with | [_, _], _ => rfl) (fun vs H Q E h => ?_) (fun f cdv A outer s H vs Q E hr h => ?_)
  · obtain ⟨a, n, ns, rfl, _⟩ := h
    rfl
  · obtain ⟨a, n, ns, rfl, ha, hl, hn, q⟩ := h
    refine ⟨_, (pss_one (ps_ret (pe_and (pe_callB (isiK (K := K) rfl) rfl B.isinstance (by decide +kernel) (pa_cons (pv 0) (pa_cons (pe_bltn (v := .ty "tuple") (u := .type "tuple") rfl B.tuple (by decide +kernel) rfl) pa_nil))) (pe_and (pe_cmpR op_eq (pe_callB (lenK (K := K) rfl) rfl B.len PySem.boot_len (pa_cons (pv 0) pa_nil)) (pv 1) (nomark _)) (pe_one (pe_callB (allK (K := K) rfl rfl) rfl B.all (by decide +kernel) (pa_cons (pe_lc (own := [("part", 2)]) (g := gName 2) (tt := tYes) rfl sc_law_is_whole_row.nd (piT (K := K) rfl (pv 0)) (blkOk_by (N := n_law_is_whole_row) (sc := defScope s_law_is_whole_row) (by decide +kernel)) (fun _ _ _ _ _ => (pg_name (i := 2) sc_law_is_whole_row.nd rfl (.inl rfl))) (fun _ _ _ _ _ => pts_nil) (fun _ _ _ _ _ => (pe_h h_law_is_integer hr pass0 (pa_cons (pv 2) pa_nil)))) pa_nil))))))), ?_⟩
    have ty := Dp.ty (Dp.tup ha (dp_intsX ns))
    refine ⟨_, rfl, _, _, _, _, _, rfl, .ty _, ty, kt_tuple _, _, rfl, iteT ?_⟩
    refine ⟨_, rfl, _, ns.length, rfl, .inr ⟨_, ha, by rw [List.length_map]⟩, _, rfl, rfl, _, rfl, ?_⟩
    rw [decide_eq_true (show V.int (ns.length : Int) = nV n by rw [hl])]
    refine iteT ?_
    refine ⟨_, rfl, a, rfl, ⟨_, ha⟩, fun L nL => ?_⟩
    refine lc_tup (K := K) (a := a) (xs := ns.map V.int) (fun i H2 => Same H H2 ∧ H2 L = some (.lst ((List.replicate i true).map V.bl))) ⟨same_upd nL, upd_same⟩ (fun i H2 _ p => Same.seqT p.1 ha) ?_ ?_
    · rintro i x H2 hx ⟨sm, hL⟩
      have hi : i < ns.length := by have := (List.getElem?_eq_some_iff.mp hx).1; rwa [List.length_map] at this
      rw [getMap hi] at hx
      obtain rfl := Option.some.inj hx
      refine ⟨rfl, yes_ ?_⟩
      refine ⟨_, rfl, _, _, rfl, .int _, _, hL, size_lt (by rw [len_rep]; omega), same_mut sm nL, ?_⟩
      rw [upd_same, List.replicate_succ', List.map_append]; rfl
    · rintro H2 ⟨sm, hL⟩
      refine ⟨_, _, rfl, SqL.of hL, ?_⟩
      rw [all_rep]
      exact q _ sm
def spScr : Sp := fun vs H Q _ => ∃ (a : Addr) (n : Nat), vs = [.ref a, nV n] ∧ PoolAt H a ∧ n ≤ 64 ∧ ∀ (H' : Hp) (L : Addr) (s : Nat → Int), Same H H' → H L = none → H' L = some (.lst (rowF n s)) → (∀ v, v < n → (s v).natAbs < 2 ^ 100) → Q (.ref L) H'
theorem ok_law_script (D : DefAt K mg "_law_script" "_law_script" s_law_script) (B : Bt mg) (h_law_take : Has P w K mg base CX0 2 "_law_take" p_law_take spTake) (h_law_pick : Has P w K mg base CX0 3 "_law_pick" p_law_pick (spPick K)) (h_law_below : Has P w K mg base CX0 3 "_law_below" p_law_below spBelow) : Has P w K mg base CX0 4 "_law_script" p_law_script spScr := by
  refine has_of D sc_law_script (fun _ _ _ _ _ _ us hl => match us, hl with | [_, _], _ => rfl) (fun vs H Q E h => ?_) (fun f cdv A outer s H vs Q E hr h => ?_)
  · obtain ⟨a, n, rfl, _⟩ := h
    rfl
  · obtain ⟨a, n, rfl, hp, hn, q⟩ := h
    refine ⟨_, (pss_cons (ps_set (i := 2) sc_law_script.nd rfl (.inr rfl) (pe_h h_law_pick hr pass0 (pa_cons (pv 0) (pa_cons (pe_lst (pa_cons pe_int (pa_cons pe_int (pa_cons pe_int (pa_cons (pe_op op_pow pe_int pe_int) (pa_cons (pe_op op_pow pe_int pe_int) pa_nil)))))) pa_nil))))
  (pss_one (ps_ret (pe_lc (own := [("place", 3)]) (g := gName 3) (tt := tYes) rfl sc_law_script.nd (pi_range1 rfl B.range (pa_cons (pv 1) pa_nil)) (blkOk_by (N := n_law_script) (sc := defScope s_law_script) (by decide +kernel)) (fun _ _ _ _ _ => (pg_name (i := 3) sc_law_script.nd rfl (.inl rfl))) (fun _ _ _ _ _ => pts_nil) (fun _ _ _ _ _ => (pe_ifExp (pt_cmpR op_gt (pe_h h_law_take hr pass0 (pa_cons (pv 0) (pa_cons pe_int pa_nil))) pe_int (nomark _)) (pe_op op_sub (pe_h h_law_below hr pass0 (pa_cons (pv 0) (pa_cons (pe_op op_add (pe_op op_mul pe_int (pv 2)) pe_int) pa_nil))) (pv 2)) pe_int)))))), ?_⟩
    refine ⟨_, rfl, _, _, rfl, rfl, ⟨by decide, by decide, by decide⟩, _, _, rfl, rfl, ⟨by decide, by decide, by decide⟩, by show 5 ≤ sizeLine; decide, fun L1 n1 => ?_⟩
    have s1 : Same H (upd H L1 (.lst [.int 1, .int 10, .int 10, .int (10 ^ (9 : Int).toNat), .int (10 ^ (25 : Int).toNat)])) := same_upd n1
    refine ⟨a, L1, _, rfl, hp.same s1, SqL.of upd_same, by decide, by decide, fun i v hv => ?_⟩
    have gv : ∃ x : Int, v = .int x ∧ 0 < x ∧ x < 2 ^ 99 := by
      have hm := List.mem_of_getElem? hv
      simp only [List.mem_cons, List.not_mem_nil, or_false] at hm
      rcases hm with rfl | rfl | rfl | rfl | rfl
      · exact ⟨_, rfl, by decide, by decide +kernel⟩
      · exact ⟨_, rfl, by decide, by decide +kernel⟩
      · exact ⟨_, rfl, by decide, by decide +kernel⟩
      · exact ⟨_, rfl, by decide, by decide +kernel⟩
      · exact ⟨_, rfl, by decide +kernel, by decide +kernel⟩
    obtain ⟨x, rfl, x0, x1⟩ := gv
    have e99 : (2 : Int) ^ 99 = 633825300114114700748351602688 := by decide
    have e100 : (2 : Nat) ^ 100 = 1267650600228229401496703205376 := by decide
    rw [e99] at x1
    generalize upd H L1 (.lst [.int 1, .int 10, .int 10, .int (10 ^ (9 : Int).toNat), .int (10 ^ (25 : Int).toNat)]) = H1 at s1
    refine nx_ ?_
    refine ⟨_, rfl, n, rfl, by omega, by omega, fun L nL => ?_⟩
    refine lc_range (lo := 0) (n := n) (fun i H2 => Same H1 H2 ∧ ∃ f : Nat → Int, H2 L = some (.lst (rowF i f)) ∧ ∀ v, v < i → (f v).natAbs < 2 ^ 100) ⟨same_upd nL, fun _ => 0, upd_same, fun _ h => absurd h (Nat.not_lt_zero _)⟩ ?_ ?_
    · rintro i H2 hi ⟨sm2, f, hL, hb⟩
      have fin : ∀ y : Int, y.natAbs < 2 ^ 100 → ∃ acc, H2 L = some (.lst acc) ∧ acc.length < sizeLine ∧ (Same H1 (upd H2 L (.lst (acc ++ [.int y]))) ∧ ∃ f : Nat → Int, (upd H2 L (.lst (acc ++ [.int y]))) L = some (.lst (rowF (i + 1) f)) ∧ ∀ v, v < i + 1 → (f v).natAbs < 2 ^ 100) := fun y hy =>
        ⟨_, hL, size_lt (by rw [rowF_len]; omega), same_mut sm2 nL, fun v => if v = i then y else f v, by
          rw [upd_same, rowF_succ, if_pos rfl]
          rw [rowF_congr fun v hv => (if_neg (show ¬ v = i by omega)).symm], fun v hv => by
          show (if v = i then y else f v).natAbs < 2 ^ 100
          by_cases c : v = i
          · rw [if_pos c]; exact hy
          · rw [if_neg c]; exact hb v (by omega)⟩
      have hp2 := hp.same (s1.trans sm2)
      refine ⟨rfl, yes_ ?_⟩
      refine ⟨_, rfl, a, 3, rfl, hp2, by decide, by decide, fun r0 _ _ => ?_⟩
      refine ⟨_, _, rfl, rfl, _, rfl, ifD (fun _ => ?_) (fun _ => fin 0 (by rw [e100]; decide))⟩
      refine ⟨_, rfl, _, rfl, _, _, rfl, rfl, .inl ⟨by decide, by decide⟩, _, _, rfl, rfl, a, _, rfl, hp2, by omega, fun r r0 r1 => ?_⟩
      exact ⟨_, rfl, _, _, rfl, rfl, fin _ (by rw [e100]; omega)⟩
    · rintro H2 ⟨sm2, f, hL, hb⟩
      exact q _ L f (s1.trans sm2) (s1.free nL) hL hb
def spLIO (K : PySem.W.Frag) : Sp := fun vs H Q _ => ∃ (T c o : Addr) (as : List Addr) (n : Nat) (es : List Pr) (cs : Nat → Int) (p : Nat) (O : List Nat), vs = [.ref T, .ref c, nV p, .ref o] ∧ Rows H T as (fun v => .lst ((tabLine es n v).map V.int)) ∧ as.length = n ∧ n ≤ 64 ∧ es.length ≤ 400 ∧ H c = some (.tup (rowF n cs)) ∧ H o = some (.tup (O.map nV)) ∧ OrdB n es cs p O ∧
  ∀ (H' : Hp), Same H H' → Q (.bl true) H'
theorem ok_law_is_order (D : DefAt K mg "_law_is_order" "_law_is_order" s_law_is_order) (B : Bt mg) (h_law_is_whole_row : Has P w K mg base CX0 2 "_law_is_whole_row" p_law_is_whole_row (spWR K)) : Has P w K mg base CX0 3 "_law_is_order" p_law_is_order (spLIO K) := by
  refine has_of D sc_law_is_order (fun _ _ _ _ _ _ us hl => match us, hl with | [_, _, _, _], _ => rfl) (fun vs H Q E h => ?_) (fun f cdv A outer s H vs Q E hr h => ?_)
  · obtain ⟨T, c, o, as, n, es, cs, p, O, rfl, _⟩ := h
    rfl
  · obtain ⟨T, c, o, as, n, es, cs, p, O, rfl, ro, las, hn, hes, hc, ho, ob, q⟩ := h
    refine ⟨_, (pss_cons (ps_set (i := 4) sc_law_is_order.nd rfl (.inl rfl) (pe_callB (lenK (K := K) rfl) rfl B.len PySem.boot_len (pa_cons (pv 0) pa_nil)))
  (pss_cons (ps_if (PW.pt (pw_or (pt_not (pt_val (pe_h h_law_is_whole_row hr pass0 (pa_cons (pv 3) (pa_cons (pv 4) pa_nil))))) (pw_or (pt_cmpR (op_neD hr.units) (pe_callB (cr_sortedIT (K := K) rfl) rfl B.sorted (by decide +kernel) (pa_cons (pv 3) pa_nil)) (pe_listRg rfl rfl B.list (prg_1 rfl B.range (pv 4))) (nomark _)) (pw_or1 (pt_cmpR op_ne (pe_ix (ixT (K := K) rfl) (pv 3) pe_int (fun _ _ => rfl)) (pv 2) (nomark _)))))) (pss_one (ps_ret pe_bl)) pss_nil)
  (pss_one (ps_ret (pe_callB (allK (K := K) rfl rfl) rfl B.all (by decide +kernel) (pa_cons (pe_lc (own := [("k", 5)]) (g := gName 5) (tt := tYes) rfl sc_law_is_order.nd (pi_range2 rfl B.range (pa_cons pe_int (pa_cons (pv 4) pa_nil))) (blkOk_by (N := n_law_is_order) (sc := defScope s_law_is_order) (by decide +kernel)) (fun _ _ _ _ _ => (pg_name (i := 5) sc_law_is_order.nd rfl (.inr rfl))) (fun _ _ _ _ _ => pts_nil) (fun _ _ _ _ _ => (pe_cmpR op_gt (pe_callB (sumK (K := K) rfl rfl) rfl B.sum (by decide +kernel) (pa_cons (pe_lc (own := [("j", 6)]) (g := gName 6) (tt := tYes) rfl sc_law_is_order.nd (pi_range1 rfl B.range (pa_cons (pv 5) pa_nil)) (blkOk_by (N := n_law_is_order) (sc := _) (by rfl)) (fun _ _ _ _ _ => (pg_name (i := 6) sc_law_is_order.nd rfl (.inl rfl))) (fun _ _ _ _ _ => pts_nil) (fun _ _ _ _ _ => (pe_ix (ixL (K := K) rfl) (pe_ix (ixL (K := K) rfl) (pv 0) (pe_ix (ixT (K := K) rfl) (pv 3) (pv 5) (fun _ _ => rfl)) (fun _ _ => rfl)) (pe_ix (ixT (K := K) rfl) (pv 3) (pv 6) (fun _ _ => rfl)) (fun _ _ => rfl)))) pa_nil)) (pe_ix (ixT (K := K) rfl) (pv 1) (pe_ix (ixT (K := K) rfl) (pv 3) (pv 5) (fun _ _ => rfl)) (fun _ _ => rfl)) (nomark _)))) pa_nil)))))), ?_⟩
    have lenT : (as.map V.ref).length = n := by rw [List.length_map, las]
    have lO : O.length = n := by rw [ob.pm.length_eq, List.length_range]
    have bO : ∀ u, u ∈ O → u < n := fun u hu => List.mem_range.mp (ob.pm.mem_iff.mp hu)
    have ho' : SqT K H o ((O.map fun n : Nat => (n : Int)).map V.int) := by rw [← nV_ints]; exact SqT.of ho
    refine ⟨_, rfl, _, n, rfl, .inl ⟨_, SqL.of ro.1, lenT.symm⟩, ?_⟩
    refine nx_ ?_
    refine ⟨_, rfl, _, rfl, ?_⟩
    refine ⟨o, n, _, rfl, ho', by rw [List.length_map, lO], by omega, fun H1 s1 => ?_⟩
    refine ⟨_, rfl, ?_⟩
    refine iteF ?_
    refine ⟨_, rfl, o, _, rfl, Same.seqT s1 ho', fun ns' A1 pm so nA1 => ?_⟩
    have ens := sorted_range ob.pm pm so
    subst ens
    have s2 := s1.trans (same_upd (o := .lst (((List.range n).map fun n : Nat => (n : Int)).map V.int)) nA1)
    have hA1 : (upd H1 A1 (.lst (((List.range n).map fun n : Nat => (n : Int)).map V.int))) A1 = some (.lst (((List.range n).map fun n : Nat => (n : Int)).map V.int)) := upd_same
    generalize upd H1 A1 (.lst (((List.range n).map fun n : Nat => (n : Int)).map V.int)) = H2 at s2 hA1 ⊢
    refine ⟨_, rfl, n, rfl, .of_le (by decide) (by omega) (by decide) (by omega), fun A2 nA2 => ?_⟩
    have en : rgV 0 (n : Int) = (List.range n).map nV := rgV_nat (m := (n : Int)) |>.trans (by rfl)
    rw [en]
    have s3 := s2.trans (same_upd (o := .lst ((List.range n).map nV)) nA2)
    have hA2 : (upd H2 A2 (.lst ((List.range n).map nV))) A2 = some (.lst ((List.range n).map nV)) := upd_same
    have hA1' := (same_upd (o := .lst ((List.range n).map nV)) nA2) _ _ hA1
    generalize upd H2 A2 (.lst ((List.range n).map nV)) = H3 at s3 hA2 hA1' ⊢
    refine ⟨.list (((List.range n).map fun n : Nat => (n : Int)).map PyData.int), .list (((List.range n).map fun n : Nat => (n : Int)).map PyData.int), .lst (SqL.of hA1') (dp_intsX _), .lst (SqL.of (by rw [hA2, nV_ints])) (dp_intsX _), shaped_intsX _, shaped_intsX _, ?_⟩
    rw [eqv_intsX, decide_eq_true rfl]
    refine ⟨_, rfl, ?_⟩
    refine iteF ?_
    have ho3 := s3 _ _ ho
    refine ⟨_, rfl, _, _, 0, nV p, rfl, rfl, SqT.of ho3, atI_nat (j := 0) (by rw [List.getElem?_map, ob.hd]; rfl), _, rfl, rfl, _, rfl, ?_⟩
    refine ifN (fun e => absurd rfl e) fun _ => ?_
    refine nx_ ?_
    have n1 : 0 < n := by
      have := (List.getElem?_eq_some_iff.mp ob.hd).1
      omega
    refine ⟨_, rfl, 1, n, rfl, by omega, fun L nL => ?_⟩
    refine lc_range (lo := 1) (n := ((n : Int) - 1).toNat) (fun i H2 => Same H3 H2 ∧ H2 L = some (.lst ((List.replicate i true).map V.bl))) ⟨same_upd nL, upd_same⟩ ?_ ?_
    · rintro i H4 hi ⟨s4, hL⟩
      have hk : i + 1 < O.length := by omega
      have ei : V.int (1 + (i : Int)) = nV (i + 1) := by show V.int _ = V.int _; congr 1; omega
      rw [ei]
      have hot := ob.hot (i + 1) hk (by omega)
      have gk : (O.map nV)[i + 1]? = some (nV O[i + 1]) := by rw [List.getElem?_map, List.getElem?_eq_getElem hk]; rfl
      have hx := bO _ (List.getElem_mem hk)
      generalize O[i + 1] = x at hot gk hx
      have s34 := s3.trans s4
      refine ⟨rfl, yes_ ?_⟩
      refine ⟨_, rfl, i + 1, rfl, by omega, by omega, fun S nS => ?_⟩
      refine lc_range (lo := 0) (n := i + 1) (fun j H5 => Same H4 H5 ∧ H5 S = some (.lst (((O.take j).map fun u => mI es x u).map V.int))) ⟨same_upd nS, upd_same⟩ ?_ ?_
      · rintro j H5 hj ⟨s5, hS⟩
        rw [zint0]
        have s35 := s34.trans s5
        have ro5 := ro.same s35
        have lI : x < as.length := by omega
        have hjO : j < O.length := by omega
        have gj : (O.map nV)[j]? = some (nV O[j]) := by rw [List.getElem?_map, List.getElem?_eq_getElem hjO]; rfl
        have hy := bO _ (List.getElem_mem hjO)
        refine ⟨rfl, yes_ ?_⟩
        refine ⟨_, rfl, _, rfl, _, rfl, _, _, (i + 1 : Nat), nV x, rfl, rfl, SqT.of (s35 _ _ ho), atI_nat gk, _, _, x, .ref as[x], rfl, rfl, SqL.of ro5.1, atI_nat (rows_get lI), ?_⟩
        refine ⟨_, rfl, _, rfl, _, _, j, _, rfl, rfl, SqT.of (s35 _ _ ho), atI_nat gj, _, _, O[j], _, rfl, rfl, SqL.of (ro5.at lI).2, atI_nat (tabLine_get hy), ?_⟩
        refine ⟨_, hS, size_lt (by rw [List.length_map, List.length_map, List.length_take]; omega), same_mut s5 nS, ?_⟩
        rw [upd_same, List.take_add_one, List.getElem?_eq_getElem hjO, List.map_append, List.map_append]; rfl
      · rintro H5 ⟨s5, hS⟩
        refine tNil_ ?_
        refine ⟨S, _, rfl, SqL.of hS, ?_⟩
        have s35 := s34.trans s5
        refine ⟨_, rfl, _, rfl, _, rfl, _, _, (i + 1 : Nat), nV x, rfl, rfl, SqT.of (s35 _ _ ho), atI_nat gk, _, _, x, _, rfl, rfl, SqT.of (s35 _ _ hc), atI_nat (rowF_get hx), ?_⟩
        refine ⟨_, _, rfl, rfl, _, s5 _ _ hL, size_lt (by rw [len_rep]; omega), same_mut (s4.trans s5) nL, ?_⟩
        rw [upd_same, List.replicate_succ', List.map_append]
        show some (HO.lst (_ ++ [V.bl (decide (cs x < hO es (O.take (i + 1)) x))])) = _
        rw [decide_eq_true hot]; rfl
    · rintro H4 ⟨s4, hL⟩
      refine tNil_ ?_
      refine ⟨_, _, rfl, SqL.of hL, ?_⟩
      rw [all_rep]
      exact q _ (s3.trans s4)
end
end G3

set_option Elab.async false
set_option linter.all false
set_option maxRecDepth 100000
set_option maxHeartbeats 4000000
namespace G3
open PySem PySem.Spec PyProof.Rows L2
theorem mult_permX {es es' : List Pr} (h : es'.Perm es) (i u : Nat) : mult es' i u = mult es i u := by
  unfold mult
  rw [h.count_eq, h.count_eq]
theorem tab_perm {es es' : List Pr} (h : es'.Perm es) (n v : Nat) : tabLine es n v = tabLine es' n v := by
  unfold tabLine
  exact List.map_congr_left fun u _ => by rw [mult_permX h]
theorem lap_absX {n : Nat} {es : List Pr} {s : Nat → Int} (hn : n ≤ 64) (he : es.length ≤ 400) (hs : ∀ v, v < n → (s v).natAbs < 2 ^ 100) {v : Nat} (hv : v < n) : (lapF n es s v).natAbs < 2 ^ 200 := by
  have e100 : (2 : Nat) ^ 100 = 1267650600228229401496703205376 := by decide
  have e200 : (2 : Nat) ^ 200 = 1606938044258990275541962092341162602522202993782792835301376 := by decide
  have h1 : (lapF n es s v).natAbs ≤ ((List.range n).map fun _ => 800 * (2 * 1267650600228229401496703205376)).sum := sumI_abs (g := fun _ => 800 * (2 * 1267650600228229401496703205376)) fun u hu => by
    rw [Int.natAbs_mul, mI_abs]
    have h2 := mult_le (es := es) (i := v) (u := u)
    have h3 := hs v hv
    have h4 := hs u hu
    rw [e100] at h3 h4
    exact Nat.mul_le_mul (by omega) (by omega)
  have h2 := sum_le (f := fun _ => 800 * (2 * 1267650600228229401496703205376)) (b := 800 * (2 * 1267650600228229401496703205376)) (n := n) fun _ _ => Nat.le_refl _
  have h3 : n * (800 * (2 * 1267650600228229401496703205376)) ≤ 64 * (800 * (2 * 1267650600228229401496703205376)) := Nat.mul_le_mul_right _ hn
  rw [e200]
  omega
theorem big_of {x : Int} (h : x.natAbs < 2 ^ 1300) : x.natAbs < 2 ^ bigE := Nat.lt_of_lt_of_le h (Nat.pow_le_pow_right (by decide) (by decide))
theorem big_sub {x y : Int} (h : x.natAbs < 2 ^ 1300) (hy : y.natAbs < 2 ^ 200) : (x - y).natAbs < 2 ^ bigE := by
  have h1 : (x - y).natAbs ≤ x.natAbs + y.natAbs := by omega
  have h2 : (2 : Nat) ^ 1300 + 2 ^ 200 ≤ 2 ^ 1301 := by
    rw [Nat.pow_succ, Nat.mul_two]
    exact Nat.add_le_add_left (Nat.pow_le_pow_right (by decide) (by decide)) _
  have h3 : (2 : Nat) ^ 1301 ≤ 2 ^ bigE := Nat.pow_le_pow_right (by decide) (by decide)
  exact Nat.lt_of_le_of_lt h1 (Nat.lt_of_lt_of_le (Nat.add_lt_add h hy) (Nat.le_trans h2 h3))
theorem lapF_const {n : Nat} {es : List Pr} {c : Int} {v : Nat} : lapF n es (fun _ => c) v = 0 := by
  unfold lapF
  exact sumI_zero fun u _ => by rw [Int.sub_self, Int.mul_zero]
theorem again_eq {n : Nat} {es : List Pr} {cs s m s' : Nat → Int} {p : Nat} (hp : p < n) (low1 : Low n es (fun v => cs v - lapF n es s v) p) (low2 : Low n es (fun v => cs v - lapF n es m v - lapF n es s' v) p) (e1 : s p = 0) (e2 : s' p = 0) :
    ∀ v, v < n → s' v = s v - m v + m p ∧ cs v - lapF n es m v - lapF n es s' v = cs v - lapF n es s v := by
  have el : ∀ v, lapF n es (fun u => m u + s' u - s u) v = lapF n es m v + lapF n es s' v - lapF n es s v := fun v => by rw [lapF_sub, lapF_add]
  have u := low_uniq (f := fun u => m u + s' u - s u) low1 low2 hp fun v hv => by
    rw [el]; omega
  intro v hv
  have h1 : m v + s' v - s v = m p + s' p - s p := u v hv
  have h2 : lapF n es (fun u => m u + s' u - s u) v = lapF n es (fun _ => m p + s' p - s p) v := lapF_congr (fun w hw => u w hw) hv
  rw [lapF_const, el] at h2
  constructor <;> omega
theorem fit_row {k n : Nat} {f : Nat → Int} (hn : n ≤ 64) : Fit (k + 2) (.tuple (((List.range n).map f).map PyData.int)) := ⟨by rw [List.length_map, List.length_map, List.length_range]; omega, fit_ints⟩
theorem dp_row {K : PySem.W.Frag} {H : Hp} {a : Addr} {n : Nat} {f : Nat → Int} (h : H a = some (.tup (rowF n f))) : Dp K H (.ref a) (.tuple (((List.range n).map f).map PyData.int)) := .tup (SqT.of (by rw [h, rowF_map])) (dp_intsX _)
theorem lap_low {n : Nat} {es : List Pr} {f : Nat → Int} {p : Nat} (h : ∀ v, v < n → f v ≤ f p) : 0 ≤ lapF n es f p := by
  unfold lapF
  exact sumI_nonneg fun u hu => Int.mul_nonneg mI_nonneg (by have := h u hu; omega)
/-- what stands while the law asks -/
structure SoS (H : Hp) (C a g kd T : Addr) (as : List Addr) (R : Addr → Prop) (n : Nat) (es : List Pr) : Prop where
  gr : Gr memo2 H C g kd R n es
  hp : PoolAt H a
  ro : Rows H T as (fun v => .lst ((tabLine es n v).map V.int))
theorem SoS.same {H H' : Hp} {C a g kd T : Addr} {as : List Addr} {R : Addr → Prop} {n : Nat} {es : List Pr} (h : SoS H C a g kd T as R n es) (e : Same H H') : SoS H' C a g kd T as R n es := ⟨h.gr.same e, h.hp.same e, h.ro.same e⟩
theorem SoS.stp {H H' : Hp} {C a g kd T : Addr} {as : List Addr} {R R' : Addr → Prop} {n : Nat} {es : List Pr} (h : SoS H C a g kd T as R n es) (las : as.length = n) (e : Stp memo2 C g kd n es H R H' R') : SoS H' C a g kd T as R' n es := by
  obtain ⟨kvs, hk⟩ := h.gr.kdo
  obtain ⟨c, ns, h1, h2, h3⟩ := h.hp
  refine ⟨e.gr, ⟨c, ns, e.to _ _ (ne_of h1 hk (fun z => by cases z)) h1, e.lst h.gr (fun z => z) h2, h3⟩, h.ro.but e.to (ne_of h.ro.1 hk dict_ne.1) fun x hx => ?_⟩
  obtain ⟨i, hi, rfl⟩ := List.getElem_of_mem hx
  exact ne_of (h.ro.at hi).2 hk dict_ne.1
theorem new_sameX {H : Hp} {C x dx : Addr} (nx : H x = none) (ndx : H dx = none) : Same H (upd (upd H dx (.own x)) x (.ins C dx [])) := fun b o e => by
  rw [upd_ne (ne_of_none e nx), upd_ne (ne_of_none e ndx)]; exact e
theorem made_graphX (m : Memo) {H H' : Hp} {C x dx kd : Addr} {n : Nat} {es es' : List Pr} (good : Good n es) (hn1 : 1 ≤ n) (hn : n ≤ 64) (he : es.length ≤ 400) (nx : H x = none) (ndx : H dx = none)
    (bt : But (· = x) (upd (upd H dx (.own x)) x (.ins C dx [])) H') (ga : GrAt H' C x n es' kd) (hp : es'.Perm es) (hx : Lex es') (hk : H' kd = some (.dK [])) : Same H H' ∧ ∃ R, Gr m H' C x kd R n es' := by
  have s1 := new_sameX (C := C) nx ndx
  refine ⟨fun b o e => bt _ _ (ne_of_none e nx) (s1 _ _ e), ?_⟩
  obtain ⟨d, eT, vs, g1, g2, g3⟩ := ga
  refine ⟨fun y => y = x ∨ y = eT ∨ V.ref y ∈ vs, ⟨d, eT, vs, g1, g2, g3, .inl rfl, .inr (.inl rfl), fun t ht => .inr (.inr ht)⟩, good.perm hp, hn1, hn, by rw [hp.length_eq]; exact he, hx, fun y hy => ?_, [], hk, List.nodup_nil, fun _ _ h => nomatch h⟩
  rcases hy with rfl | rfl | hy
  · exact ⟨by rw [g1]; exact fun z => (nomatch z), ne_of g1 hk ins_dK⟩
  · exact ⟨by rw [g2]; exact fun z => (nomatch z), ne_of g2 hk dict_ne.2⟩
  · obtain ⟨t, a, b, e1, e2⟩ := g3.mem _ hy
    cases e1
    exact ⟨by rw [e2]; exact fun z => (nomatch z), ne_of e2 hk dict_ne.2⟩
section
variable {P : Program} {w : World} {K : PySem.W.Frag} {mg : Str → Option Value} {base : Heap} {C : Addr}
abbrev n_law_so : List Str := ["pool", "n", "edges", "figures", "graph", "table", "place", "chips", "told", "low", "script", "moved", "other", "again", "turn", "more", "later", "order", "far", "step", "near", "one", "at"]
abbrev p_law_so : List Str := ["pool", "n", "edges", "figures"]
theorem sc_law_so : FnScope n_law_so p_law_so (defScope s_law_so) := ⟨rfl, rfl, rfl, by decide +kernel, rfl, by decide +kernel, by decide +kernel⟩
def spLedW : Sp := fun vs H Q _ => ∃ (T c0 q0 : Addr) (as : List Addr) (n : Nat) (es : List Pr) (cs s : Nat → Int), vs = [.ref T, .ref c0, .ref q0] ∧ Rows H T as (fun v => .lst ((tabLine es n v).map V.int)) ∧ as.length = n ∧ n ≤ 64 ∧ es.length ≤ 400 ∧ (H c0 = some (.lst (rowF n cs)) ∨ H c0 = some (.tup (rowF n cs))) ∧ (H q0 = some (.lst (rowF n s)) ∨ H q0 = some (.tup (rowF n s))) ∧
  ∀ (H' : Hp) (L : Addr), Same H H' → H L = none → H' L = some (.lst (rowF n fun v => cs v - lapF n es s v)) → Q (.ref L) H'
theorem ledW {k : Nat} (h : Has P w K mg base CX0 k "_law_led" p_law_led (spLedT K)) : Has P w K mg base CX0 k "_law_led" p_law_led spLedW := h.imp fun vs H Q E hh => by
  obtain ⟨T, c0, q0, as, n, es, cs, s, rfl, ro, las, hn, hes, hc, hq, q⟩ := hh
  rw [rowF_map] at hc hq
  refine ⟨T, c0, q0, as, n, es, _, _, rfl, ro, las, by omega, by omega, hc, hq, by rw [List.length_map, List.length_range], by rw [List.length_map, List.length_range], fun H' L sm nL hL => ?_⟩
  refine q H' L sm nL ?_
  rw [hL, rowF_map]
  unfold ledOf
  congr 3
  refine List.map_congr_left fun i hi => ?_
  have hi := List.mem_range.mp hi
  rw [getD_range hi, lapF_sent]
  congr 1
  exact lapF_congr (fun u hu => getD_range hu) hi
def spSo : Sp := fun vs H Q _ => ∃ (a l : Addr) (n : Nat) (es : List Pr) (fg : Int), vs = [.ref a, nV n, .ref l, .int fg] ∧ PoolAt H a ∧ PLst H l es ∧ Good n es ∧ 1 ≤ n ∧ n ≤ 64 ∧ es.length ≤ 400 ∧ ∀ H', Same H H' → Q (.bl true) H'
theorem ok_so (D : DefAt K mg "_law_so" "_law_so" s_law_so) (B : Bt mg) (mk_Graph : HasMk P w K mg base CX0 3 "Graph" C p_Graph___init__ (spGInit C)) (h_law_table : Has P w K mg base CX0 1 "_law_table" p_law_table spTable)
    (h_law_great_chips : Has P w K mg base CX0 4 "_law_great_chips" p_law_great_chips spGreat) (h_law_given : Has P w K mg base CX0 3 "_law_given" p_law_given (spGiven K)) (h_law_led : Has P w K mg base CX0 1 "_law_led" p_law_led spLedW)
    (h_law_same : Has P w K mg base CX0 4 "_law_same" p_law_same (spSame K 3)) (h_law_take : Has P w K mg base CX0 2 "_law_take" p_law_take spTake) (h_law_pick : Has P w K mg base CX0 3 "_law_pick" p_law_pick (spPick K))
    (h_reduced : Has P w K mg base CX0 7 "reduced" p_reduced (spRed memo2 K C)) (h_law_is_whole_row : Has P w K mg base CX0 2 "_law_is_whole_row" p_law_is_whole_row (spWR K)) (h_law_is_low : Has P w K mg base CX0 2 "_law_is_low" p_law_is_low (spLIL K))
    (h_law_script : Has P w K mg base CX0 4 "_law_script" p_law_script spScr) (h_burning : Has P w K mg base CX0 3 "burning" p_burning (spBurn memo2 K C)) (h_law_is_order : Has P w K mg base CX0 3 "_law_is_order" p_law_is_order (spLIO K))
    (h_is_reduced : Has P w K mg base CX0 4 "is_reduced" p_is_reduced (spIsRed memo2 K C)) (h_shows_reduced : Has P w K mg base CX0 4 "shows_reduced" p_shows_reduced (spShow memo2 K C)) : Has P w K mg base CX0 8 "_law_so" p_law_so spSo := by
  refine has_of D sc_law_so (fun _ _ _ _ _ _ us hl => match us, hl with | [_, _, _, _], _ => rfl) (fun vs H Q E h => ?_) (fun f cdv A outer s H vs Q E hr h => ?_)
  · obtain ⟨a, l, n, es, fg, rfl, _⟩ := h
    rfl
  · obtain ⟨a, l, n, es, fg, rfl, hp, hl, good, hn1, hn, he, q⟩ := h
    refine ⟨_, (Evl.pss_cut (ps_par (i := 4) (j := 5) rfl sc_law_so.nd rfl rfl (by decide) rfl rfl (pa_cons (pe_makeH mk_Graph hr pass0 (pa_cons (pv 1) (pa_cons (pv 2) pa_nil))) (pa_cons (pe_h h_law_table hr pass0 (pa_cons (pv 1) (pa_cons (pv 2) pa_nil))) pa_nil)) rfl)
  (pss_cons (ps_set (i := 6) sc_law_so.nd rfl (.inr rfl) (pe_h h_law_take hr pass0 (pa_cons (pv 0) (pa_cons (pv 1) pa_nil))))
  (pss_cons (ps_set (i := 7) sc_law_so.nd rfl (.inl rfl) (pe_h h_law_great_chips hr pass0 (pa_cons (pv 0) (pa_cons (pv 1) (pa_cons (pv 3) pa_nil)))))
  (Evl.pss_cut (ps_set (i := 8) sc_law_so.nd rfl (.inl rfl) (pe_h h_reduced hr pass0 (pa_cons (pv 4) (pa_cons (pe_h h_law_given hr pass0 (pa_cons (pv 0) (pa_cons (pv 7) pa_nil))) (pa_cons (pv 6) pa_nil)))))
  (Evl.pss_cut (ps_if (PW.pt (pw_or (pt_not (pt_val (pe_callB (isiK (K := K) rfl) rfl B.isinstance (by decide +kernel) (pa_cons (pv 8) (pa_cons (pe_bltn (v := .ty "tuple") (u := .type "tuple") rfl B.tuple (by decide +kernel) rfl) pa_nil))))) (pw_or (pt_cmpR op_ne (pe_callB (lenK (K := K) rfl) rfl B.len PySem.boot_len (pa_cons (pv 8) pa_nil)) pe_int (nomark _)) (pw_or (pt_not (pt_val (pe_h h_law_is_whole_row hr pass0 (pa_cons (pe_ix (ixT (K := K) rfl) (pv 8) pe_int (fun _ _ => rfl)) (pa_cons (pv 1) pa_nil))))) (pw_or1 (pt_not (pt_val (pe_h h_law_is_whole_row hr pass0 (pa_cons (pe_ix (ixT (K := K) rfl) (pv 8) pe_int (fun _ _ => rfl)) (pa_cons (pv 1) pa_nil)))))))))) (pss_one (ps_ret pe_bl)) pss_nil)
  (pss_cons (ps_asg (pv 8) (pgT (K := K) (n := 2) rfl rfl (pgs_cons (pg_name (i := 9) sc_law_so.nd rfl (.inr rfl)) (pgs_cons (pg_name (i := 10) sc_law_so.nd rfl (.inr rfl)) pgs_nil))))
  (Evl.pss_cut (ps_if (PW.pt (pw_or (pt_cmpR op_ne (pe_ix (ixT (K := K) rfl) (pv 10) (pv 6) (fun _ _ => rfl)) pe_int (nomark _)) (pw_or (pt_cmpR (op_neD hr.units) (pe_h h_law_led hr pass0 (pa_cons (pv 5) (pa_cons (pv 7) (pa_cons (pv 10) pa_nil)))) (pe_callTy (listK (K := K) rfl) rfl B.list (by decide +kernel) (pa_cons (pv 9) pa_nil)) (nomark _)) (pw_or1 (pt_not (pt_val (pe_h h_law_is_low hr pass0 (pa_cons (pv 5) (pa_cons (pv 9) (pa_cons (pv 6) pa_nil)))))))))) (pss_one (ps_ret pe_bl)) pss_nil)
  (pss_cons (ps_set (i := 11) sc_law_so.nd rfl (.inr rfl) (pe_h h_law_script hr pass0 (pa_cons (pv 0) (pa_cons (pv 1) pa_nil))))
  (pss_cons (ps_set (i := 12) sc_law_so.nd rfl (.inl rfl) (pe_h h_law_led hr pass0 (pa_cons (pv 5) (pa_cons (pv 7) (pa_cons (pv 11) pa_nil)))))
  (Evl.pss_cut (ps_set (i := 13) sc_law_so.nd rfl (.inl rfl) (pe_h h_reduced hr pass0 (pa_cons (pv 4) (pa_cons (pv 12) (pa_cons (pv 6) pa_nil)))))
  (Evl.pss_cut (ps_if (pt_not (pt_val (pe_h h_law_same hr pass0 (pa_cons (pv 13) (pa_cons (pe_tup (pa_cons (pv 9) (pa_cons (pe_callTy (tupK (K := K) rfl) rfl B.tuple (by decide +kernel) (pa_cons (pe_lc (own := [("at", 22)]) (g := gName 22) (tt := tYes) rfl sc_law_so.nd (pi_range1 rfl B.range (pa_cons (pv 1) pa_nil)) (blkOk_by (N := n_law_so) (sc := defScope s_law_so) (by decide +kernel)) (fun _ _ _ _ _ => (pg_name (i := 22) sc_law_so.nd rfl (.inl rfl))) (fun _ _ _ _ _ => pts_nil) (fun _ _ _ _ _ => (pe_op op_add (pe_op op_sub (pe_ix (ixT (K := K) rfl) (pv 10) (pv 22) (fun _ _ => rfl)) (pe_ix (ixL (K := K) rfl) (pv 11) (pv 22) (fun _ _ => rfl))) (pe_ix (ixL (K := K) rfl) (pv 11) (pv 6) (fun _ _ => rfl))))) pa_nil)) pa_nil))) pa_nil))))) (pss_one (ps_ret pe_bl)) pss_nil)
  (Evl.pss_cut (ps_for PassesOwn.never rfl (pi_range1 rfl B.range (pa_cons pe_int pa_nil)) (pg_name (i := 14) sc_law_so.nd rfl (.inl rfl)) (pss_cons (ps_setLc (i := 15) (own := [("one", 21)]) (g := gName 21) (tt := tYes) rfl sc_law_so.nd rfl rfl (sw_true rfl rfl rfl (by decide +kernel)) (piL (K := K) rfl (pe_h h_law_script hr pass0 (pa_cons (pv 0) (pa_cons (pv 1) pa_nil)))) (blkOk_by (N := n_law_so) (sc := defScope s_law_so) (by decide +kernel)) (fun _ _ _ _ _ => (pg_name (i := 21) sc_law_so.nd rfl (.inl rfl))) (fun _ _ _ _ _ => pts_nil) (fun _ _ _ _ _ => (pe_ifExp (pt_cmpR op_eq (pe_h h_law_take hr pass0 (pa_cons (pv 0) (pa_cons pe_int pa_nil))) pe_int (nomark _)) (pv 21) pe_int)))
  (pss_cons (ps_asg pe_int (pg_sub (pv 15) (pv 6) set_list))
  (pss_cons (ps_set (i := 16) sc_law_so.nd rfl (.inr rfl) (pe_h h_law_led hr pass0 (pa_cons (pv 5) (pa_cons (pv 9) (pa_cons (pv 15) pa_nil)))))
  (Evl.pss_cut (ps_if (PW.pt (pw_and (pt_cmpR op_gt (pe_callB (L2.cr_max rfl) rfl B.max (by decide +kernel) (pa_cons (pv 15) pa_nil)) pe_int (nomark _)) (pw_and1 (pt_cmpR op_ge (pe_callB (L2.cr_min rfl) rfl B.min (by decide +kernel) (pa_cons (pe_op op_cat (pe_lc (own := [("at", 22)]) (g := gName 22) (tt := _) rfl sc_law_so.nd (pi_range1 rfl B.range (pa_cons (pv 1) pa_nil)) (blkOk_by (N := n_law_so) (sc := defScope s_law_so) (by decide +kernel)) (fun _ _ _ _ _ => (pg_name (i := 22) sc_law_so.nd rfl (.inl rfl))) (fun _ _ _ _ _ => (pts_one (pt_cmpR op_ne (pv 22) (pv 6) (nomark _)))) (fun _ _ _ _ _ => (pe_ix (ixL (K := K) rfl) (pv 16) (pv 22) (fun _ _ => rfl)))) (pe_lst (pa_cons pe_int pa_nil))) pa_nil)) pe_int (nomark _))))) (pss_one (ps_ret pe_bl)) pss_nil)
  (pss_one (ps_if (PW.pt (pw_and (pt_cmpR op_gt (pe_ix (ixL (K := K) rfl) (pv 16) (pv 6) (fun _ _ => rfl)) (pe_ix (ixT (K := K) rfl) (pv 9) (pv 6) (fun _ _ => rfl)) (nomark _)) (pw_and1 (pt_cmpR op_ge (pe_callB (L2.cr_min rfl) rfl B.min (by decide +kernel) (pa_cons (pe_op op_cat (pe_lc (own := [("at", 22)]) (g := gName 22) (tt := _) rfl sc_law_so.nd (pi_range1 rfl B.range (pa_cons (pv 1) pa_nil)) (blkOk_by (N := n_law_so) (sc := defScope s_law_so) (by decide +kernel)) (fun _ _ _ _ _ => (pg_name (i := 22) sc_law_so.nd rfl (.inl rfl))) (fun _ _ _ _ _ => (pts_one (pt_cmpR op_ne (pv 22) (pv 6) (nomark _)))) (fun _ _ _ _ _ => (pe_ix (ixL (K := K) rfl) (pv 16) (pv 22) (fun _ _ => rfl)))) (pe_lst (pa_cons pe_int pa_nil))) pa_nil)) pe_int (nomark _))))) (pss_one (ps_ret pe_bl)) pss_nil)))))))
  (Evl.pss_cut (ps_set (i := 17) sc_law_so.nd rfl (.inl rfl) (pe_h h_burning hr pass0 (pa_cons (pv 4) (pa_cons (pv 9) (pa_cons (pv 6) pa_nil)))))
  (Evl.pss_cut (ps_if (PW.pt (pw_or (pt_not (pt_val (pe_callB (isiK (K := K) rfl) rfl B.isinstance (by decide +kernel) (pa_cons (pv 17) (pa_cons (pe_bltn (v := .ty "tuple") (u := .type "tuple") rfl B.tuple (by decide +kernel) rfl) pa_nil))))) (pw_or (pt_cmpR op_ne (pe_callB (lenK (K := K) rfl) rfl B.len PySem.boot_len (pa_cons (pv 17) pa_nil)) pe_int (nomark _)) (pw_or (pt_not (pt_val (pe_h h_law_is_order hr pass0 (pa_cons (pv 5) (pa_cons (pv 9) (pa_cons (pv 6) (pa_cons (pe_ix (ixT (K := K) rfl) (pv 17) pe_int (fun _ _ => rfl)) pa_nil))))))) (pw_or1 (pt_not (pt_val (pe_h h_law_same hr pass0 (pa_cons (pe_ix (ixT (K := K) rfl) (pv 17) pe_int (fun _ _ => rfl)) (pa_cons (pe_tup pa_nil) pa_nil)))))))))) (pss_one (ps_ret pe_bl)) pss_nil)
  (Evl.pss_cut (ps_if (pt_not (pt_val (pe_h h_law_same hr pass0 (pa_cons (pe_tup (pa_cons (pe_h h_is_reduced hr pass0 (pa_cons (pv 4) (pa_cons (pv 9) (pa_cons (pv 6) pa_nil)))) (pa_cons (pe_h h_shows_reduced hr pass0 (pa_cons (pv 4) (pa_cons (pv 7) (pa_cons (pv 6) (pa_cons (pv 9) (pa_cons (pe_tup (pa_cons (pv 10) (pa_cons (pe_ix (ixT (K := K) rfl) (pv 17) pe_int (fun _ _ => rfl)) pa_nil))) pa_nil)))))) pa_nil))) (pa_cons (pe_tup (pa_cons pe_bl (pa_cons pe_bl pa_nil))) pa_nil))))) (pss_one (ps_ret pe_bl)) pss_nil)
  (pss_cons (ps_set (i := 18) sc_law_so.nd rfl (.inr rfl) (pe_h h_law_take hr pass0 (pa_cons (pv 0) (pa_cons (pv 1) pa_nil))))
  (pss_cons (ps_set (i := 19) sc_law_so.nd rfl (.inr rfl) (pe_h h_law_pick hr pass0 (pa_cons (pv 0) (pa_cons (pe_lst (pa_cons pe_int (pa_cons (pe_un un_neg pe_int) (pa_cons (pe_op op_pow pe_int pe_int) pa_nil)))) pa_nil))))
  (Evl.pss_cut (ps_set (i := 20) sc_law_so.nd rfl (.inl rfl) (pe_callTy (tupK (K := K) rfl) rfl B.tuple (by decide +kernel) (pa_cons (pe_lc (own := [("at", 22)]) (g := gName 22) (tt := tYes) rfl sc_law_so.nd (pi_range1 rfl B.range (pa_cons (pv 1) pa_nil)) (blkOk_by (N := n_law_so) (sc := defScope s_law_so) (by decide +kernel)) (fun _ _ _ _ _ => (pg_name (i := 22) sc_law_so.nd rfl (.inl rfl))) (fun _ _ _ _ _ => pts_nil) (fun _ _ _ _ _ => (pe_op op_add (pe_ix (ixT (K := K) rfl) (pv 9) (pv 22) (fun _ _ => rfl)) (pe_op op_mulW (pv 19) (pe_callTy call_int1 rfl B.int (by decide +kernel) (pa_cons (pe_cmpR op_eq (pv 22) (pv 18) (nomark _)) pa_nil)))))) pa_nil)))
  (pss_one (ps_ret (pe_h h_law_same hr pass0 (pa_cons (pe_h h_shows_reduced hr pass0 (pa_cons (pv 4) (pa_cons (pv 7) (pa_cons (pv 6) (pa_cons (pv 20) (pa_cons (pe_tup (pa_cons (pv 10) (pa_cons (pe_ix (ixT (K := K) rfl) (pv 17) pe_int (fun _ _ => rfl)) pa_nil))) pa_nil)))))) (pa_cons pe_bl pa_nil))))))))))))))))))))))), ?_⟩
    refine ⟨fun σ H2 => ∃ (g kd T : Addr) (R : Addr → Prop) (es1 : List Pr) (as : List Addr), σ = [some (.ref a), some (nV n), some (.ref l), some (.int fg), some (.ref g), some (.ref T), none, none, none, none, none, none, none, none, none, none, none, none, none, none, none, none, none] ∧ es1.Perm es ∧ H kd = none ∧ SoS H2 C a g kd T as R n es1 ∧ Same H H2 ∧ as.length = n, ?_, ?_⟩
    · refine ⟨_, rfl, _, rfl, ?_⟩
      intro g dx0 nx0 ndx0 ne0
      obtain ⟨ws, hw1, hw2⟩ := id hl
      have s0 := new_sameX (C := C) nx0 ndx0
      refine ⟨g, dx0, l, n, ws, es, rfl, upd_same, s0 _ _ hw1, hw2.same s0, good, hn1, hn, he, fun H1 es1 kd bt ga pm hx nk hk => ⟨rfl, ?_⟩⟩
      obtain ⟨s1, R, gr1⟩ := made_graphX memo2 good hn1 hn he nx0 ndx0 bt ga pm hx hk
      refine ⟨_, rfl, _, rfl, n, l, es, rfl, hl.same s1, good.1, by omega, by omega, fun H2 T as s2 nT las _ ro => ?_⟩
      exact ⟨_, _, rfl, g, kd, T, R, es1, as, rfl, pm, s0.free nk, ⟨gr1.same s2, hp.same (s1.trans s2), ro.to fun v _ => by rw [tab_perm pm]⟩, s1.trans s2, las⟩
    rintro σ H2 ⟨g, kd, T, R, es1, as, rfl, pm, nk0, F, s02, las⟩
    have he1 : es1.length ≤ 400 := by rw [pm.length_eq]; exact he
    clear hl
    -- place, chips
    refine ⟨_, rfl, _, rfl, a, n, rfl, F.hp, by omega, by omega, fun r r0 r1 => ?_⟩
    obtain ⟨p, rfl⟩ : ∃ p : Nat, r = p := ⟨r.toNat, by omega⟩
    have hpn : p < n := by omega
    refine nx_ ?_
    refine ⟨_, rfl, _, rfl, _, rfl, a, n, fg, rfl, F.hp, by omega, fun H3 c0 csl s3 _ hc3 lcs bcs => ?_⟩
    obtain ⟨cs, ecs, bc⟩ : ∃ cs : Nat → Int, csl.map V.int = rowF n cs ∧ ∀ v, v < n → (cs v).natAbs < 2 ^ 1300 := ⟨fun i => csl.getD i 0, rowF_of lcs, fun v hv => by
      show (csl.getD v 0).natAbs < 2 ^ 1300
      rw [List.getD_eq_getElem?_getD, List.getElem?_eq_getElem (by omega)]
      exact bcs _ (List.getElem_mem _)⟩
    rw [ecs] at hc3
    have F3 := F.same s3
    have s03 := s02.trans s3
    clear F bcs lcs hp s02 s3
    refine nx_ ?_
    -- told
    refine ⟨fun σ H4 => ∃ (R4 : Addr → Prop) (D S L : Addr) (s : Nat → Int), σ = [some (.ref a), some (nV n), some (.ref l), some (.int fg), some (.ref g), some (.ref T), some (nV p), some (.ref c0), some (.ref D), none, none, none, none, none, none, none, none, none, none, none, none, none, none] ∧ Stp memo2 C g kd n es1 H3 R H4 R4 ∧ H4 D = some (.tup [.ref L, .ref S]) ∧ H4 S = some (.tup (rowF n s)) ∧ H4 L = some (.tup (rowF n fun v => cs v - lapF n es1 s v)) ∧ s p = 0 ∧ Low n es1 (fun v => cs v - lapF n es1 s v) p, ?_, ?_⟩
    · refine ⟨_, rfl, _, rfl, _, rfl, a, c0, _, rfl, F3.hp, SqL.of hc3, fun H4 p1 s4 _ h4 => ?_⟩
      have st4 := (StX.refl F3.gr).alloc s4
      refine ⟨_, rfl, g, kd, p1, R, n, es1, cs, p, rfl, st4.gr, h4.imp SqL.of SqT.of, hpn, fun v hv => big_of (bc v hv), fun H5 R5 D S L s c5 hD hS hL sp low => ?_⟩
      exact ⟨R5, D, S, L, s, rfl, st4.call c5, hD, hS, hL, sp, low⟩
    rintro σ H4 ⟨R4, D, S, L, s, rfl, st4, hD, hS, hL, sp, low⟩
    have F4 := F3.stp las st4
    have hc4 := st4.lst F3.gr (fun z => z) hc3
    -- its form
    refine ⟨fun σ H5 => σ = [some (.ref a), some (nV n), some (.ref l), some (.int fg), some (.ref g), some (.ref T), some (nV p), some (.ref c0), some (.ref D), none, none, none, none, none, none, none, none, none, none, none, none, none, none] ∧ Same H4 H5, ?_, ?_⟩
    · refine ⟨_, rfl, _, _, _, _, _, rfl, .ty _, ty_t (SqT.of hD), kt_tuple (.tuple []), _, rfl, iteF ?_⟩
      refine ⟨_, rfl, _, 2, rfl, .inr ⟨_, SqT.of hD, rfl⟩, rfl, _, rfl, ifN (fun e => absurd rfl e) fun _ => ?_⟩
      refine ⟨_, rfl, _, _, 0, .ref L, rfl, rfl, SqT.of hD, rfl, _, rfl, L, n, (List.range n).map fun v => cs v - lapF n es1 s v, rfl, by rw [← rowF_map]; exact SqT.of hL, by rw [List.length_map, List.length_range], by omega, fun H5 s5 => ?_⟩
      refine ⟨_, rfl, iteF ?_⟩
      refine ⟨_, rfl, _, _, 1, .ref S, rfl, rfl, SqT.of (s5 _ _ hD), rfl, _, rfl, S, n, (List.range n).map s, rfl, by rw [← rowF_map]; exact SqT.of (s5 _ _ hS), by rw [List.length_map, List.length_range], by omega, fun H6 s6 => ?_⟩
      exact ⟨_, rfl, iteF ⟨rfl, s5.trans s6⟩⟩
    rintro σ H5 ⟨rfl, s5⟩
    have F5 := F4.same s5
    have hc5 := s5 _ _ hc4
    have hD5 := s5 _ _ hD
    have hS5 := s5 _ _ hS
    have hL5 := s5 _ _ hL
    have st5 := st4.alloc s5
    clear F4 hc4 hD hS hL s5 st4
    refine ⟨_, rfl, D, _, rfl, SqT.of hD5, rfl, _, _, rfl, _, _, rfl, rfl, ?_⟩
    refine nx_ ?_
    -- it is the sum led by the script, and it is low
    refine ⟨fun σ H6 => σ = [some (.ref a), some (nV n), some (.ref l), some (.int fg), some (.ref g), some (.ref T), some (nV p), some (.ref c0), some (.ref D), some (.ref L), some (.ref S), none, none, none, none, none, none, none, none, none, none, none, none] ∧ Same H5 H6, ?_, ?_⟩
    · refine ⟨_, rfl, _, rfl, _, _, p, _, rfl, rfl, SqT.of hS5, atI_nat (rowF_get hpn), rfl, _, rfl, ifN (fun e => absurd (by rw [sp]) e) fun _ => ?_⟩
      refine ⟨_, rfl, _, rfl, _, rfl, T, c0, S, as, n, es1, cs, s, rfl, F5.ro, las, hn, he1, .inl hc5, .inr hS5, fun H6 M s6 nM hM => ?_⟩
      refine ⟨_, rfl, L, _, rfl, .inr (SqT.of (s6 _ _ hL5)), fun A4 nA4 => ?_⟩
      have a4 := same_upd (o := HO.lst (rowF n fun v => cs v - lapF n es1 s v)) nA4
      have hA4 : (upd H6 A4 (.lst (rowF n fun v => cs v - lapF n es1 s v))) A4 = some (.lst (rowF n fun v => cs v - lapF n es1 s v)) := upd_same
      generalize upd H6 A4 (.lst (rowF n fun v => cs v - lapF n es1 s v)) = H7 at a4 hA4 ⊢
      refine ⟨.list (((List.range n).map fun v => cs v - lapF n es1 s v).map PyData.int), .list (((List.range n).map fun v => cs v - lapF n es1 s v).map PyData.int), .lst (SqL.of (by rw [a4 _ _ hM, rowF_map])) (dp_intsX _), .lst (SqL.of (by rw [hA4, rowF_map])) (dp_intsX _), shaped_intsX _, shaped_intsX _, ?_⟩
      rw [eqv_intsX, decide_eq_true rfl]
      have s57 := s6.trans a4
      refine ⟨_, rfl, iteF ?_⟩
      refine ⟨_, rfl, _, rfl, _, rfl, T, L, as, n, es1, _, p, rfl, F5.ro.same s57, las, hn, he1, s57 _ _ hL5, hpn, low, fun H8 s8 => ?_⟩
      exact ⟨_, rfl, iteF ⟨rfl, s57.trans s8⟩⟩
    rintro σ H6 ⟨rfl, s6⟩
    have F6 := F5.same s6
    have hc6 := s6 _ _ hc5
    have hS6 := s6 _ _ hS5
    have hL6 := s6 _ _ hL5
    have st6 := st5.alloc s6
    clear F5 hc5 hS5 hL5 s6 st5 hD5
    -- moved, other
    refine ⟨_, rfl, _, rfl, a, n, rfl, F6.hp, hn, fun H7 M m s7 _ hM7 bm => ?_⟩
    refine nx_ ?_
    refine ⟨_, rfl, _, rfl, _, rfl, T, c0, M, as, n, es1, cs, m, rfl, F6.ro.same s7, las, hn, he1, .inl (s7 _ _ hc6), .inl hM7, fun H8 U s8 _ hU8 => ?_⟩
    refine nx_ ?_
    have s68 := s7.trans s8
    have F8 := F6.same s68
    have hc8 := s68 _ _ hc6
    have hS8 := s68 _ _ hS6
    have hL8 := s68 _ _ hL6
    have hM8 := s8 _ _ hM7
    have st8 := st6.alloc s68
    clear F6 hc6 hS6 hL6 st6 s68 s8 hM7 s7
    -- again
    refine ⟨fun σ H9 => ∃ (R9 : Addr → Prop) (D2 S2 L2 : Addr), σ = [some (.ref a), some (nV n), some (.ref l), some (.int fg), some (.ref g), some (.ref T), some (nV p), some (.ref c0), some (.ref D), some (.ref L), some (.ref S), some (.ref M), some (.ref U), some (.ref D2), none, none, none, none, none, none, none, none, none] ∧ Stp memo2 C g kd n es1 H8 R4 H9 R9 ∧ H9 D2 = some (.tup [.ref L2, .ref S2]) ∧ H9 S2 = some (.tup (rowF n fun v => s v - m v + m p)) ∧ H9 L2 = some (.tup (rowF n fun v => cs v - lapF n es1 s v)), ?_, ?_⟩
    · refine ⟨_, rfl, _, rfl, _, rfl, g, kd, U, R4, n, es1, _, p, rfl, F8.gr, .inl (SqL.of hU8), hpn, fun v hv => big_sub (bc v hv) (lap_absX hn he1 bm hv), fun H9 R9 D2 S2 L2 s' c9 hD hS hL sp2 low2 => ?_⟩
      have ag := again_eq hpn low low2 sp sp2
      exact ⟨R9, D2, S2, L2, rfl, c9, hD, by rw [hS]; congr 2; exact rowF_congr fun v hv => (ag v hv).1, by rw [hL]; congr 2; exact rowF_congr fun v hv => (ag v hv).2⟩
    rintro σ H9 ⟨R9, D2, S2, L2, rfl, c9, hD9, hS9', hL9'⟩
    have F9 := F8.stp las c9
    have hc9 := c9.lst F8.gr (fun z => z) hc8
    have hM9 := c9.lst F8.gr (fun z => z) hM8
    have hS9 := c9.tup F8.gr (fun z => z) hS8
    have hL9 := c9.tup F8.gr (fun z => z) hL8
    have st9 := st8.call c9
    clear F8 hc8 hS8 hL8 hM8 st8 c9
    refine ⟨fun σ H10 => σ = [some (.ref a), some (nV n), some (.ref l), some (.int fg), some (.ref g), some (.ref T), some (nV p), some (.ref c0), some (.ref D), some (.ref L), some (.ref S), some (.ref M), some (.ref U), some (.ref D2), none, none, none, none, none, none, none, none, none] ∧ Same H9 H10, ?_, ?_⟩
    · refine ⟨_, rfl, _, rfl, _, rfl, n, rfl, by omega, by omega, fun A nA => ?_⟩
      refine lc_range (lo := 0) (n := n) (fun i H10 => Same H9 H10 ∧ H10 A = some (.lst (rowF i fun v => s v - m v + m p))) ⟨same_upd nA, upd_same⟩ ?_ ?_
      · rintro i H10 hi ⟨sm, hA⟩
        rw [zint0]
        refine ⟨rfl, yes_ ?_⟩
        refine ⟨_, rfl, _, rfl, _, _, i, _, rfl, rfl, SqT.of (sm _ _ hS9), atI_nat (rowF_get hi), _, rfl, _, rfl, _, _, i, _, rfl, rfl, SqL.of (sm _ _ hM9), atI_nat (rowF_get hi), _, _, rfl, rfl, ?_⟩
        refine ⟨_, rfl, _, rfl, _, _, p, _, rfl, rfl, SqL.of (sm _ _ hM9), atI_nat (rowF_get hpn), _, _, rfl, rfl, _, hA, size_lt (by rw [rowF_len]; omega), same_mut sm nA, ?_⟩
        rw [upd_same, rowF_succ]
      · rintro H10 ⟨s10, hA⟩
        refine tNil_ ?_
        refine ⟨A, _, rfl, .inl ⟨SqL.of hA, fun A2 nA2 => ?_⟩⟩
        have s11 := s10.trans (same_upd (o := HO.tup (rowF n fun v => s v - m v + m p)) nA2)
        have hA2 : (upd H10 A2 (.tup (rowF n fun v => s v - m v + m p))) A2 = some (.tup (rowF n fun v => s v - m v + m p)) := upd_same
        generalize upd H10 A2 (.tup (rowF n fun v => s v - m v + m p)) = H11 at s11 hA2 ⊢
        refine tNil_ ?_
        refine ⟨by show 2 ≤ sizeLine; decide, fun A3 nA3 => ?_⟩
        have a3 := same_upd (o := HO.tup [.ref L, .ref A2]) nA3
        have hA3 : (upd H11 A3 (.tup [.ref L, .ref A2])) A3 = some (.tup [.ref L, .ref A2]) := upd_same
        generalize upd H11 A3 (.tup [.ref L, .ref A2]) = H12 at a3 hA3 ⊢
        have s12 := s11.trans a3
        refine ⟨.ref D2, .ref A3, .tuple [.tuple (((List.range n).map fun v => cs v - lapF n es1 s v).map PyData.int), .tuple (((List.range n).map fun v => s v - m v + m p).map PyData.int)], rfl,
          .tup (SqT.of (s12 _ _ hD9)) (.cons (dp_row (s12 _ _ hL9')) (.cons (dp_row (s12 _ _ hS9')) .nil)), .tup (SqT.of hA3) (.cons (dp_row (s12 _ _ hL9)) (.cons (dp_row (a3 _ _ hA2)) .nil)), ⟨by show 2 ≤ 100000; decide, fun d hd => ?_⟩, fun H13 s13 => ?_⟩
        · simp only [List.mem_cons, List.not_mem_nil, or_false] at hd
          rcases hd with rfl | rfl
          · exact fit_row hn
          · exact fit_row hn
        · exact ⟨_, rfl, iteF ⟨rfl, s12.trans s13⟩⟩
    rintro σ H10 ⟨rfl, s10⟩
    have F10 := F9.same s10
    have hc10 := s10 _ _ hc9
    have hS10 := s10 _ _ hS9
    have hL10 := s10 _ _ hL9
    have st10 := st9.alloc s10
    clear F9 hc9 hS9 hL9 hM9 st9 s10 hD9 hS9' hL9'
    -- more
    refine ⟨fun σ H11 => ∃ (y14 y15 y16 : Option V), σ = [some (.ref a), some (nV n), some (.ref l), some (.int fg), some (.ref g), some (.ref T), some (nV p), some (.ref c0), some (.ref D), some (.ref L), some (.ref S), some (.ref M), some (.ref U), some (.ref D2), y14, y15, y16, none, none, none, none, none, none] ∧ Same H10 H11, ?_, ?_⟩
    · refine ⟨_, rfl, by decide, by decide, ?_⟩
      refine for_range (lo := 0) (n := 3) (fun i σ H11 => ∃ (y14 y15 y16 : Option V), σ = [some (.ref a), some (nV n), some (.ref l), some (.int fg), some (.ref g), some (.ref T), some (nV p), some (.ref c0), some (.ref D), some (.ref L), some (.ref S), some (.ref M), some (.ref U), some (.ref D2), y14, y15, y16, none, none, none, none, none, none] ∧ Same H10 H11) ?_ ?_ ?_
      · exact ⟨_, _, _, rfl, Same.refl _⟩
      · rintro i σ H11 hi ⟨y14, y15, y16, rfl, s11⟩
        have F11 := F10.same s11
        refine ⟨_, rfl, _, rfl, a, n, rfl, F11.hp, hn, fun H12 Z0 z s12 _ hZ0 _ => ?_⟩
        refine ⟨Z0, rfl, ⟨_, SqL.of hZ0⟩, fun Z nZ => ?_⟩
        refine lc_list (K := K) (a := Z0) (xs := rowF n z) (fun i H13 => Same H12 H13 ∧ ∃ f, H13 Z = some (.lst (rowF i f))) ⟨same_upd nZ, fun _ => 0, upd_same⟩ (fun i H13 _ p => SqL.of (p.1 _ _ hZ0)) ?_ ?_
        · rintro i x H13 hx ⟨sm, f, hZ⟩
          have hi : i < n := by have := (List.getElem?_eq_some_iff.mp hx).1; rwa [rowF_len] at this
          rw [rowF_get hi] at hx
          obtain rfl := Option.some.inj hx
          have fin : ∀ y : Int, ∃ acc, H13 Z = some (.lst acc) ∧ acc.length < sizeLine ∧ (Same H12 (upd H13 Z (.lst (acc ++ [.int y]))) ∧ ∃ f, (upd H13 Z (.lst (acc ++ [.int y]))) Z = some (.lst (rowF (i + 1) f))) := fun y =>
            ⟨_, hZ, size_lt (by rw [rowF_len]; omega), same_mut sm nZ, fun v => if v = i then y else f v, by
              rw [upd_same, rowF_succ, if_pos rfl, rowF_congr fun v hv => (if_neg (show ¬ v = i by omega)).symm]⟩
          refine ⟨rfl, yes_ ?_⟩
          refine ⟨_, rfl, a, 2, rfl, (F11.same (s12.trans sm)).hp, by decide, by decide, fun r r0 r1 => ?_⟩
          refine ⟨rfl, _, rfl, ifD (fun _ => ⟨_, rfl, fin _⟩) (fun _ => fin 0)⟩
        rintro H13 ⟨s13, f0, hZ⟩
        rw [rowF_len] at hZ
        refine nx_ ?_
        refine ⟨_, rfl, _, rfl, Z, _, _, p, rfl, rfl, hZ, Evl.ixN_nat (by rw [rowF_len]; exact hpn), ?_⟩
        rw [rowF_set]
        obtain ⟨f, ef, fp⟩ : ∃ f : Nat → Int, (fun u => if u = p then 0 else f0 u) = f ∧ f p = 0 := ⟨_, rfl, if_pos rfl⟩
        rw [ef]
        have s14 : Same H11 (upd H13 Z (.lst (rowF n f))) := same_mut (s12.trans s13) (s12.free nZ)
        have hZ14 : (upd H13 Z (.lst (rowF n f))) Z = some (.lst (rowF n f)) := upd_same
        generalize upd H13 Z (.lst (rowF n f)) = H14 at s14 hZ14 ⊢
        clear hZ hZ0 ef s13 s12
        refine nx_ ?_
        have F14 := F11.same s14
        have s1014 := s11.trans s14
        refine ⟨_, rfl, _, rfl, _, rfl, T, L, Z, as, n, es1, _, f, rfl, F14.ro, las, hn, he1, .inr (s1014 _ _ hL10), .inl hZ14, fun H15 Y s15 nY hY15 => ?_⟩
        have hZ15 := s15 _ _ hZ14
        have s1015 := s1014.trans s15
        clear F11 F14 hZ14 s14 s1014
        refine nx_ ?_
        have rm : (∀ v, v < n → v ≠ p → 0 ≤ cs v - lapF n es1 s v - lapF n es1 f v) → ∀ v, v < n → f v ≤ f p := fun h => red_max low.2 hpn h
        have mnn : ∀ mn : Int, mn ≥ 0 → (∀ y, y ∈ ((((List.range n).filter fun v => decide (v ≠ p)).map fun v => cs v - lapF n es1 s v - lapF n es1 f v) ++ [0]) → mn ≤ y) → ∀ v, v < n → v ≠ p → 0 ≤ cs v - lapF n es1 s v - lapF n es1 f v := fun mn ge h v hv hvp => by
          have := h _ (List.mem_append_left _ (List.mem_map.mpr ⟨v, List.mem_filter.mpr ⟨List.mem_range.mpr hv, decide_eq_true hvp⟩, rfl⟩))
          exact Int.le_trans ge this
        refine ⟨fun σ H16 => σ = [some (.ref a), some (nV n), some (.ref l), some (.int fg), some (.ref g), some (.ref T), some (nV p), some (.ref c0), some (.ref D), some (.ref L), some (.ref S), some (.ref M), some (.ref U), some (.ref D2), some (.int (0 + (i : Int))), some (.ref Z), some (.ref Y), none, none, none, none, none, none] ∧ Same H15 H16, ?_, ?_⟩
        · refine ⟨_, rfl, Z, (List.range n).map f, rfl, SqL.of (by rw [hZ15, rowF_map]), by rw [List.length_map, List.length_range]; omega, fun mx hm _ => ?_⟩
          refine ⟨_, _, rfl, rfl, _, rfl, ifD (fun gt => ?_) (fun _ => ⟨rfl, Same.refl _⟩)⟩
          refine ⟨_, rfl, n, rfl, by omega, by omega, fun A nA => ?_⟩
          refine lc_range (lo := 0) (n := n) (fun i H14 => Same H15 H14 ∧ H14 A = some (.lst ((((List.range i).filter fun v => decide (v ≠ p)).map fun v => cs v - lapF n es1 s v - lapF n es1 f v).map V.int))) ⟨same_upd nA, upd_same⟩ ?_ ?_
          · rintro i H16 hi ⟨sm, hA⟩
            rw [zint0]
            refine ⟨rfl, ?_⟩
            refine ⟨_, rfl, _, rfl, rfl, _, rfl, ifN (fun ne => ?_) (fun e => ?_)⟩
            · have ne : i ≠ p := fun z => ne (congrArg nV z)
              refine ⟨_, rfl, _, rfl, _, _, i, _, rfl, rfl, SqL.of (sm _ _ hY15), atI_nat (rowF_get hi), ?_⟩
              refine ⟨_, hA, size_lt (by rw [List.length_map, List.length_map]; have := List.length_filter_le (fun v => decide (v ≠ p)) (List.range i); rw [List.length_range] at this; omega), same_mut sm nA, ?_⟩
              rw [upd_same, row_filter, if_pos (decide_eq_true ne), List.map_append]; rfl
            · have e : i = p := by
                have e : nV i = nV p := e
                injection e with e; omega
              refine ⟨sm, ?_⟩
              rw [hA, row_filter, if_neg (fun z => (of_decide_eq_true z) e), List.append_nil]
          rintro H16 ⟨s16, hA⟩
          refine ⟨by show 1 ≤ sizeLine; decide, fun A1 nA1 => ?_⟩
          have a1 := same_upd (o := HO.lst [.int 0]) nA1
          have hA1 : (upd H16 A1 (.lst [.int 0])) A1 = some (.lst [.int 0]) := upd_same
          have hA' := a1 _ _ hA
          have s17 := s16.trans a1
          generalize upd H16 A1 (.lst [.int 0]) = H17 at a1 hA1 hA' s17 ⊢
          refine ⟨A, A1, _, _, rfl, rfl, hA', hA1, size_le (by rw [List.length_map, List.length_map]; have := List.length_filter_le (fun v => decide (v ≠ p)) (List.range n); rw [List.length_range] at this; show _ + 1 ≤ _; omega), fun A2 nA2 => ?_⟩
          have s18 := s17.trans (same_upd (o := HO.lst ((((List.range n).filter fun v => decide (v ≠ p)).map fun v => cs v - lapF n es1 s v - lapF n es1 f v).map V.int ++ [V.int 0])) nA2)
          have hA2 : (upd H17 A2 (.lst ((((List.range n).filter fun v => decide (v ≠ p)).map fun v => cs v - lapF n es1 s v - lapF n es1 f v).map V.int ++ [V.int 0]))) A2 = some (.lst (((((List.range n).filter fun v => decide (v ≠ p)).map fun v => cs v - lapF n es1 s v - lapF n es1 f v) ++ [0]).map V.int)) := by rw [upd_same, List.map_append]; rfl
          generalize upd H17 A2 (.lst ((((List.range n).filter fun v => decide (v ≠ p)).map fun v => cs v - lapF n es1 s v - lapF n es1 f v).map V.int ++ [V.int 0])) = H18 at s18 hA2 ⊢
          refine ⟨A2, _, rfl, SqL.of hA2, by rw [List.length_append]; show 0 < _ + 1; omega, fun mn _ hmn => ?_⟩
          refine ⟨_, _, rfl, rfl, _, rfl, ifD (fun ge => ?_) (fun _ => ?_)⟩
          · exfalso
            obtain ⟨v, hv, rfl⟩ := List.mem_map.mp hm
            have := rm (mnn mn ge hmn) v (List.mem_range.mp hv)
            omega
          · exact ⟨rfl, s18⟩
        clear hZ15
        rintro σ H19 ⟨rfl, s19⟩
        have hY19 := s19 _ _ hY15
        have s1019 := s1015.trans s19
        clear hY15 s15 s1015 s19
        refine ⟨_, rfl, _, rfl, _, _, p, _, rfl, rfl, SqL.of hY19, atI_nat (rowF_get hpn), ?_⟩
        refine ⟨_, rfl, _, rfl, _, _, p, _, rfl, rfl, SqT.of (s1019 _ _ hL10), atI_nat (rowF_get hpn), ?_⟩
        have go : ∀ H' : Hp, Same H19 H' → ∃ (y14 y15 y16 : Option V), [some (.ref a), some (nV n), some (.ref l), some (.int fg), some (.ref g), some (.ref T), some (nV p), some (.ref c0), some (.ref D), some (.ref L), some (.ref S), some (.ref M), some (.ref U), some (.ref D2), some (V.int (0 + (i : Int))), some (.ref Z), some (.ref Y), none, none, none, none, none, none] = [some (.ref a), some (nV n), some (.ref l), some (.int fg), some (.ref g), some (.ref T), some (nV p), some (.ref c0), some (.ref D), some (.ref L), some (.ref S), some (.ref M), some (.ref U), some (.ref D2), y14, y15, y16, none, none, none, none, none, none] ∧ Same H10 H' := fun H' e => ⟨_, _, _, rfl, s1019.trans e⟩
        refine ⟨_, _, rfl, rfl, _, rfl, ifD (fun gt => ?_) (fun _ => go _ (Same.refl _))⟩
        refine ⟨_, rfl, n, rfl, by omega, by omega, fun A nA => ?_⟩
        refine lc_range (lo := 0) (n := n) (fun i H14 => Same H19 H14 ∧ H14 A = some (.lst ((((List.range i).filter fun v => decide (v ≠ p)).map fun v => cs v - lapF n es1 s v - lapF n es1 f v).map V.int))) ⟨same_upd nA, upd_same⟩ ?_ ?_
        · rintro i H16 hi ⟨sm, hA⟩
          rw [zint0]
          refine ⟨rfl, ?_⟩
          refine ⟨_, rfl, _, rfl, rfl, _, rfl, ifN (fun ne => ?_) (fun e => ?_)⟩
          · have ne : i ≠ p := fun z => ne (congrArg nV z)
            refine ⟨_, rfl, _, rfl, _, _, i, _, rfl, rfl, SqL.of (sm _ _ hY19), atI_nat (rowF_get hi), ?_⟩
            refine ⟨_, hA, size_lt (by rw [List.length_map, List.length_map]; have := List.length_filter_le (fun v => decide (v ≠ p)) (List.range i); rw [List.length_range] at this; omega), same_mut sm nA, ?_⟩
            rw [upd_same, row_filter, if_pos (decide_eq_true ne), List.map_append]; rfl
          · have e : i = p := by
              have e : nV i = nV p := e
              injection e with e; omega
            refine ⟨sm, ?_⟩
            rw [hA, row_filter, if_neg (fun z => (of_decide_eq_true z) e), List.append_nil]
        rintro H16 ⟨s16, hA⟩
        refine ⟨by show 1 ≤ sizeLine; decide, fun A1 nA1 => ?_⟩
        have a1 := same_upd (o := HO.lst [.int 0]) nA1
        have hA1 : (upd H16 A1 (.lst [.int 0])) A1 = some (.lst [.int 0]) := upd_same
        have hA' := a1 _ _ hA
        have s17 := s16.trans a1
        generalize upd H16 A1 (.lst [.int 0]) = H17 at a1 hA1 hA' s17 ⊢
        refine ⟨A, A1, _, _, rfl, rfl, hA', hA1, size_le (by rw [List.length_map, List.length_map]; have := List.length_filter_le (fun v => decide (v ≠ p)) (List.range n); rw [List.length_range] at this; show _ + 1 ≤ _; omega), fun A2 nA2 => ?_⟩
        have s18 := s17.trans (same_upd (o := HO.lst ((((List.range n).filter fun v => decide (v ≠ p)).map fun v => cs v - lapF n es1 s v - lapF n es1 f v).map V.int ++ [V.int 0])) nA2)
        have hA2 : (upd H17 A2 (.lst ((((List.range n).filter fun v => decide (v ≠ p)).map fun v => cs v - lapF n es1 s v - lapF n es1 f v).map V.int ++ [V.int 0]))) A2 = some (.lst (((((List.range n).filter fun v => decide (v ≠ p)).map fun v => cs v - lapF n es1 s v - lapF n es1 f v) ++ [0]).map V.int)) := by rw [upd_same, List.map_append]; rfl
        generalize upd H17 A2 (.lst ((((List.range n).filter fun v => decide (v ≠ p)).map fun v => cs v - lapF n es1 s v - lapF n es1 f v).map V.int ++ [V.int 0])) = H18 at s18 hA2 ⊢
        refine ⟨A2, _, rfl, SqL.of hA2, by rw [List.length_append]; show 0 < _ + 1; omega, fun mn _ hmn => ?_⟩
        refine ⟨_, _, rfl, rfl, _, rfl, ifD (fun ge => ?_) (fun _ => ?_)⟩
        · exfalso
          have h1 := rm (mnn mn ge hmn)
          have h2 := lap_low (es := es1) h1
          omega
        · exact go _ s18
      · rintro σ H11 ⟨y14, y15, y16, rfl, s11⟩
        exact ⟨_, _, _, rfl, s11⟩
    rintro σ H11 ⟨y14, y15, y16, rfl, s11⟩
    have F11 := F10.same s11
    have hc11 := s11 _ _ hc10
    have hS11 := s11 _ _ hS10
    have hL11 := s11 _ _ hL10
    have st11 := st10.alloc s11
    clear F10 hc10 hS10 hL10 st10 s11
    -- the order
    refine ⟨fun σ H12 => ∃ (R12 : Addr → Prop) (B0 X0 Y0 : Addr) (O : List Nat), σ = [some (.ref a), some (nV n), some (.ref l), some (.int fg), some (.ref g), some (.ref T), some (nV p), some (.ref c0), some (.ref D), some (.ref L), some (.ref S), some (.ref M), some (.ref U), some (.ref D2), y14, y15, y16, some (.ref B0), none, none, none, none, none] ∧ Stp memo2 C g kd n es1 H11 R9 H12 R12 ∧ H12 B0 = some (.tup [.ref X0, .ref Y0]) ∧ H12 X0 = some (.tup (O.map nV)) ∧ H12 Y0 = some (.tup []) ∧ OrdB n es1 (fun v => cs v - lapF n es1 s v) p O, ?_, ?_⟩
    · refine ⟨_, rfl, _, rfl, _, rfl, g, kd, L, R9, n, es1, _, p, rfl, F11.gr, .inr (SqT.of hL11), hpn, fun H12 R12 B0 X0 Y0 O c12 hB hX hY bo => ?_⟩
      have ob := bo.ord low
      refine ⟨R12, B0, X0, Y0, O, rfl, c12, hB, hX, ?_, ob⟩
      rw [hY]
      congr 2
      have : (List.range n).filter (fun v => !decide (v ∈ O)) = [] := List.filter_eq_nil_iff.mpr fun v hv => by
        rw [decide_eq_true (ob.pm.mem_iff.mpr hv)]; exact Bool.false_ne_true
      rw [this]; rfl
    rintro σ H12 ⟨R12, B0, X0, Y0, O, rfl, c12, hB12, hX12, hY12, ob⟩
    have F12 := F11.stp las c12
    have hc12 := c12.lst F11.gr (fun z => z) hc11
    have hS12 := c12.tup F11.gr (fun z => z) hS11
    have hL12 := c12.tup F11.gr (fun z => z) hL11
    have st12 := st11.call c12
    clear F11 hc11 hS11 hL11 st11 c12
    refine ⟨fun σ H13 => σ = [some (.ref a), some (nV n), some (.ref l), some (.int fg), some (.ref g), some (.ref T), some (nV p), some (.ref c0), some (.ref D), some (.ref L), some (.ref S), some (.ref M), some (.ref U), some (.ref D2), y14, y15, y16, some (.ref B0), none, none, none, none, none] ∧ Same H12 H13, ?_, ?_⟩
    · refine ⟨_, rfl, _, _, _, _, _, rfl, .ty _, ty_t (SqT.of hB12), kt_tuple (.tuple []), _, rfl, iteF ?_⟩
      refine ⟨_, rfl, _, 2, rfl, .inr ⟨_, SqT.of hB12, rfl⟩, rfl, _, rfl, ifN (fun e => absurd rfl e) fun _ => ?_⟩
      refine ⟨_, rfl, _, rfl, _, rfl, _, rfl, _, _, 0, .ref X0, rfl, rfl, SqT.of hB12, rfl, T, L, X0, as, n, es1, _, p, O, rfl, F12.ro, las, hn, he1, hL12, hX12, ob, fun H13 s13 => ?_⟩
      refine ⟨_, rfl, iteF ?_⟩
      refine ⟨_, rfl, _, _, 1, .ref Y0, rfl, rfl, SqT.of (s13 _ _ hB12), rfl, by show 0 ≤ sizeLine; decide, fun A nA => ?_⟩
      have s14 := s13.trans (same_upd (o := HO.tup []) nA)
      refine ⟨.ref Y0, .ref A, .tuple [], rfl, .tup (SqT.of (s14 _ _ hY12)) .nil, .tup (SqT.of upd_same) .nil, ⟨by show 0 ≤ 100000; decide, fun d hd => nomatch hd⟩, fun H15 s15 => ?_⟩
      exact ⟨_, rfl, iteF ⟨rfl, s14.trans s15⟩⟩
    rintro σ H13 ⟨rfl, s13⟩
    have F13 := F12.same s13
    have hc13 := s13 _ _ hc12
    have hS13 := s13 _ _ hS12
    have hL13 := s13 _ _ hL12
    have hB13 := s13 _ _ hB12
    have hX13 := s13 _ _ hX12
    have st13 := st12.alloc s13
    clear F12 hc12 hS12 hL12 hB12 hX12 hY12 st12 s13
    -- both say yes
    refine ⟨fun σ H14 => ∃ (R14 : Addr → Prop), σ = [some (.ref a), some (nV n), some (.ref l), some (.int fg), some (.ref g), some (.ref T), some (nV p), some (.ref c0), some (.ref D), some (.ref L), some (.ref S), some (.ref M), some (.ref U), some (.ref D2), y14, y15, y16, some (.ref B0), none, none, none, none, none] ∧ Stp memo2 C g kd n es1 H13 R12 H14 R14, ?_, ?_⟩
    · refine ⟨_, rfl, _, rfl, _, rfl, g, kd, L, R12, n, es1, _, p, rfl, F13.gr, .inr (SqT.of hL13), hpn, fun H14 R14 b c14 hb => ?_⟩
      obtain rfl : b = true := hb.mpr low
      have hB14 := c14.tup F13.gr (fun z => z) hB13
      have hX14 := c14.tup F13.gr (fun z => z) hX13
      have hS14 := c14.tup F13.gr (fun z => z) hS13
      have hL14 := c14.tup F13.gr (fun z => z) hL13
      have hc14 := c14.lst F13.gr (fun z => z) hc13
      refine ⟨_, rfl, _, rfl, _, rfl, _, rfl, _, rfl, _, rfl, _, _, 0, .ref X0, rfl, rfl, SqT.of hB14, rfl, by show 2 ≤ sizeLine; decide, fun A nA => ?_⟩
      have a15 := same_upd (o := HO.tup [.ref S, .ref X0]) nA
      have hA : (upd H14 A (.tup [.ref S, .ref X0])) A = some (.tup [.ref S, .ref X0]) := upd_same
      generalize upd H14 A (.tup [.ref S, .ref X0]) = H15 at a15 hA ⊢
      refine ⟨g, kd, c0, L, A, S, X0, R14, n, es1, cs, _, s, p, O, rfl, c14.gr.same a15, .inl (SqL.of (a15 _ _ hc14)), a15 _ _ hL14, hA, a15 _ _ hS14, a15 _ _ hX14, hpn, .inl ⟨fun v _ => rfl, low.1, ob, fun H16 R16 c16 => ?_⟩⟩
      have c1316 := (c14.alloc a15).call c16
      refine ⟨by show 2 ≤ sizeLine; decide, fun A1 nA1 => ?_⟩
      have a17 := same_upd (o := HO.tup [.bl true, .bl true]) nA1
      have hA1 : (upd H16 A1 (.tup [.bl true, .bl true])) A1 = some (.tup [.bl true, .bl true]) := upd_same
      generalize upd H16 A1 (.tup [.bl true, .bl true]) = H17 at a17 hA1 ⊢
      refine ⟨by show 2 ≤ sizeLine; decide, fun A2 nA2 => ?_⟩
      have a18 := same_upd (o := HO.tup [.bl true, .bl true]) nA2
      refine ⟨.ref A1, .ref A2, .tuple [.bool true, .bool true], rfl, .tup (SqT.of (a18 _ _ hA1)) (.cons (.bl _) (.cons (.bl _) .nil)), .tup (SqT.of upd_same) (.cons (.bl _) (.cons (.bl _) .nil)), ⟨by show 2 ≤ 100000; decide, fun d hd => ?_⟩, fun H19 s19 => ?_⟩
      · simp only [List.mem_cons, List.not_mem_nil, or_false] at hd
        rcases hd with rfl | rfl <;> exact True.intro
      · exact ⟨_, rfl, iteF ⟨R16, rfl, c1316.alloc (a17.trans (a18.trans s19))⟩⟩
    rintro σ H14 ⟨R14, rfl, c14⟩
    have F14 := F13.stp las c14
    have hB14 := c14.tup F13.gr (fun z => z) hB13
    have hX14 := c14.tup F13.gr (fun z => z) hX13
    have hS14 := c14.tup F13.gr (fun z => z) hS13
    have hL14 := c14.tup F13.gr (fun z => z) hL13
    have hc14 := c14.lst F13.gr (fun z => z) hc13
    have st14 := st13.call c14
    clear F13 hB13 hX13 hS13 hL13 hc13 st13 c14
    -- far, step
    refine ⟨_, rfl, _, rfl, a, n, rfl, F14.hp, by omega, by omega, fun r r0 r1 => ?_⟩
    obtain ⟨u, rfl⟩ : ∃ u : Nat, r = u := ⟨r.toNat, by omega⟩
    have hun : u < n := by omega
    refine nx_ ?_
    refine ⟨_, rfl, _, rfl, _, _, rfl, rfl, ⟨by decide, by decide, by decide⟩, by show 3 ≤ sizeLine; decide, fun L1 n1 => ?_⟩
    have s15 : Same H14 (upd H14 L1 (.lst [.int 1, .int (-1), .int (10 ^ (50 : Int).toNat)])) := same_upd n1
    refine ⟨a, L1, _, rfl, F14.hp.same s15, SqL.of upd_same, by show 0 < 3; decide, by show 3 < 1000000000; decide, fun i v hv => ?_⟩
    have gv : ∃ x : Int, v = .int x ∧ x ≠ 0 ∧ x.natAbs < 2 ^ 200 := by
      have hm := List.mem_of_getElem? hv
      simp only [List.mem_cons, List.not_mem_nil, or_false] at hm
      rcases hm with rfl | rfl | rfl
      · exact ⟨_, rfl, by decide, by decide +kernel⟩
      · exact ⟨_, rfl, by decide, by decide +kernel⟩
      · exact ⟨_, rfl, by decide +kernel, by decide +kernel⟩
    obtain ⟨x, rfl, x0, x1⟩ := gv
    generalize upd H14 L1 (.lst [.int 1, .int (-1), .int (10 ^ (50 : Int).toNat)]) = H15 at s15
    have F15 := F14.same s15
    have hc15 := s15 _ _ hc14
    have hS15 := s15 _ _ hS14
    have hL15 := s15 _ _ hL14
    have hB15 := s15 _ _ hB14
    have hX15 := s15 _ _ hX14
    have st15 := st14.alloc s15
    clear F14 hc14 hS14 hL14 hB14 hX14 st14 s15
    refine nx_ ?_
    refine ⟨fun σ H16 => ∃ (N0 : Addr) (y : Option V), σ = [some (.ref a), some (nV n), some (.ref l), some (.int fg), some (.ref g), some (.ref T), some (nV p), some (.ref c0), some (.ref D), some (.ref L), some (.ref S), some (.ref M), some (.ref U), some (.ref D2), y14, y15, y16, some (.ref B0), some (nV u), some (.int x), some (.ref N0), none, y] ∧ Same H15 H16 ∧ H16 N0 = some (.tup (rowF n fun v => cs v - lapF n es1 s v + x * if v = u then 1 else 0)), ?_, ?_⟩
    · refine ⟨_, rfl, n, rfl, by omega, by omega, fun A nA => ?_⟩
      refine lc_range (lo := 0) (n := n) (fun i H16 => Same H15 H16 ∧ H16 A = some (.lst (rowF i fun v => cs v - lapF n es1 s v + x * if v = u then 1 else 0))) ⟨same_upd nA, upd_same⟩ ?_ ?_
      · rintro i H16 hi ⟨sm, hA⟩
        rw [zint0]
        refine ⟨rfl, yes_ ?_⟩
        refine ⟨_, rfl, _, rfl, _, _, i, _, rfl, rfl, SqT.of (sm _ _ hL15), atI_nat (rowF_get hi), ?_⟩
        refine ⟨_, rfl, _, rfl, _, rfl, rfl, .inr ⟨_, rfl, ?_⟩⟩
        have ek : (if (decide (nV i = nV u)) = true then (1 : Int) else 0) = if i = u then 1 else 0 := by
          by_cases e : i = u
          · rw [if_pos e, if_pos (decide_eq_true (by rw [e]))]
          · rw [if_neg e, if_neg (fun z => e (by have z := of_decide_eq_true z; injection z with z; omega))]
        refine ⟨_, _, rfl, rfl, wide_mul (a := 200) (b := 2) x1 (by split <;> decide) (by decide) (by decide) (by decide), ?_⟩
        refine ⟨_, _, rfl, rfl, _, hA, size_lt (by rw [rowF_len]; omega), same_mut sm nA, ?_⟩
        rw [upd_same, rowF_succ]
        show some (HO.lst (_ ++ [V.int (cs i - lapF n es1 s i + x * if (decide (nV i = nV u)) = true then (1 : Int) else 0)])) = _
        rw [ek]
      · rintro H16 ⟨s16, hA⟩
        refine tNil_ ?_
        refine ⟨A, _, rfl, .inl ⟨SqL.of hA, fun N0 nN => ?_⟩⟩
        exact ⟨N0, _, rfl, s16.trans (same_upd nN), upd_same⟩
    rintro σ H16 ⟨N0, y, rfl, s16, hN16⟩
    have F16 := F15.same s16
    have hc16 := s16 _ _ hc15
    have hS16 := s16 _ _ hS15
    have hL16 := s16 _ _ hL15
    have hB16 := s16 _ _ hB15
    have hX16 := s16 _ _ hX15
    have st16 := st15.alloc s16
    clear F15 hc15 hS15 hL15 hB15 hX15 st15 s16
    refine ⟨_, rfl, _, rfl, _, rfl, _, rfl, _, rfl, _, rfl, _, _, 0, .ref X0, rfl, rfl, SqT.of hB16, rfl, by show 2 ≤ sizeLine; decide, fun A nA => ?_⟩
    have a17 := same_upd (o := HO.tup [.ref S, .ref X0]) nA
    have hA : (upd H16 A (.tup [.ref S, .ref X0])) A = some (.tup [.ref S, .ref X0]) := upd_same
    generalize upd H16 A (.tup [.ref S, .ref X0]) = H17 at a17 hA ⊢
    refine ⟨g, kd, c0, N0, A, S, X0, R14, n, es1, cs, _, s, p, O, rfl, F16.gr.same a17, .inl (SqL.of (a17 _ _ hc16)), a17 _ _ hN16, hA, a17 _ _ hS16, a17 _ _ hX16, hpn, .inr ⟨⟨u, hun, ?_⟩, fun H18 R18 c18 => ?_⟩⟩
    · show ¬ (cs u - lapF n es1 s u + x * if u = u then 1 else 0) = _
      rw [if_pos rfl]
      omega
    have st18 := (st16.alloc a17).call c18
    refine ⟨.bl false, .bl false, .bool false, rfl, .bl _, .bl _, True.intro, fun H19 s19 => ?_⟩
    refine q H19 fun b o e => s19 _ _ (st18.to _ _ (ne_of_none e nk0) (s03 _ _ e))
end
end G3

set_option Elab.async false
set_option linter.all false
set_option maxRecDepth 100000
set_option maxHeartbeats 4000000
/-! Defs that are called where no repr is under way; repr of data. -/
namespace L2
open PySem PySem.Spec PyProof.Rows
/-- a def's promise, where no repr is under way -/
structure FnG (P : Program) (w : World) (K : PySem.W.Frag) (mg : Str → Option Value) (base : Heap) (CX : CXT) (k : Nat) (f : Addr) (fd : FuncData) (ps : List Str) (sp : Sp) : Prop where
  len : ∀ vs H Q E, sp vs H Q E → vs.length = ps.length
  run : ∀ (A : Around) (outer : List Env) (s : Shared) (H : Hp) (args : Args) (us : List Value) (vs : List V) (Q : VK) (E : XK), A.guards = some [] → Room k A → Env0 P w K mg base A outer s H → BindsTo s fd args (ps.zip us) → Vals vs us → sp vs H Q E →
    codeAny (model P w) A (.call (.ref f) args) (CR CX outer P w H s Q E) s
theorem fnG_of {CX : CXT} {P : Program} {w : World} {K : PySem.W.Frag} {mg : Str → Option Value} {base : Heap} {k : Nat} {f : Addr} {name qual : Str} {params : Arguments} {body : List Stmt} {scope : Scope} {dV kV doc pm cdv ct oc : Value} {an od : Option Addr}
    {osl : Array (Option Value)} {N ps : List Str} {sp : Sp} (lk : K.lookup f = some ⟨oc, od, .func (PySem.W.fnOf name qual params body scope dV kV doc pm an cdv ct), osl⟩) (hcd : PySem.W.codeIn K cdv qual = true) (S : FnScope N ps scope)
    (len : ∀ vs H Q E, sp vs H Q E → vs.length = ps.length)
    (hbody : ∀ (A : Around) (outer : List Env) (s : Shared) (H : Hp) (vs : List V) (Q : VK) (E : XK), (A.deeper (envOfC qual scope s.heap.objs.size f cdv)).guards = some [] → Room k (A.deeper (envOfC qual scope s.heap.objs.size f cdv)) → sp vs H Q E →
      ∃ t, PSs (cxOf CX P w K mg base N qual scope f cdv A outer s H E) body t ∧ t { nx := fun _ H' => Q .non H', rt := Q } (start N vs) H) :
    FnG P w K mg base CX (k + 1) f (PySem.W.fnOf name qual params body scope dV kV doc pm an cdv ct) ps sp := by
  refine ⟨len, fun A outer s H args us vs Q E hgd hr e0 hb r hsp => ?_⟩
  have kx : K.In s.heap := e0.mod.kin.keeps fun b o e => (e0.bs b o e).1
  have nl : s.heap.NoLimit := e0.mod.nolimit.keeps fun b o e => (e0.bs b o e).1
  refine codeAny_call_function hr.depth (kx _ _ lk) rfl S.co S.gen rfl (PySem.W.codeRec_of kx hcd) (hb _ _ _ _ ?_)
  refine wpAny_newFunctionEnv_cells S.kind (fun ⟨n, v⟩ hy => ?_) fun env he s1 x => ?_
  · exact (S.par n (List.of_mem_zip hy).1).imp id fun q => ⟨q, PySem.W.cellsFrom_some _ _ _ (.inl q)⟩
  subst he
  refine ⟨nl.keeps x.toInCall.keep, codeAny_func ?_⟩
  obtain ⟨t, ht, hq⟩ := hbody A outer s H vs Q E hgd (hr.deeper _) hsp
  refine wpAny_mono (ht.run [] s1 (start N vs) H _ (inv_start S hr.hd e0 (len _ _ _ _ hsp) r x) hq) (fun fl s' hs => ?_) fun e s' hs => hs
  cases fl with
  | ret u =>
    obtain ⟨v, σ', H', J, rv, q⟩ := hs
    exact ⟨v, H', J.os, J.bare, J.base, J.hok, rv, q⟩
  | next =>
    obtain ⟨σ', H', J, q⟩ := hs
    exact ⟨V.non, H', J.os, J.bare, J.base, J.hok, rfl, q⟩
  | brk => exact hs.elim fun _ h => h.elim fun _ h => h.2.elim
  | cont => exact hs.elim fun _ h => h.elim fun _ h => h.2.elim
section
variable {X : Cx} {CX : CXT} {k : Nat} {f : Addr} {fd : FuncData} {ps : List Str} {sp : Sp} {E : XK} {x : Str} {p pos : Pos} {e : Expr} {es : List Expr} {t : TA}
theorem pe_callG (hgd : X.A.guards = some []) (F : FnG X.prog X.w X.K X.mg X.base CX k f fd ps sp) (hr : Room k X.A) (hg : Gl X x) (hm : X.mg x = some (.ref f)) (hk : PySem.W.keepIn X.K (.ref f) = true) (hb : Binds X.K fd ps []) (hx : Passes CX X E)
    (ha : PA X (e :: es) t) (hdb : (x == ("__debug__" : Str)) = false := by decide) (he : starEach (e :: es) X.env = (false, eval e X.env) :: starEach es X.env := by rfl) (hpl : (backTo pos (starEach es X.env)).any (·.1) = false := by rfl) :
    PE X (.Call (.Name x p) (e :: es) [] pos) (tCall sp [] E t) := by
  refine ⟨fun pins s σ H Q I h => ?_⟩
  refine wpAny_Call_Name_kw (ld_glob I hg hm ?_ hdb)
  refine PySem.W.callWith_K (h₀ := X.base) I.ok.mod.kin hk (thn (ha.run pos pins s σ H _ I h) fun us s1 ⟨vs, H1, I1, r, q⟩ => ⟨I1.kIn, ?_⟩) he hpl
  have r2 : Vals (vs ++ []) (us ++ []) := r.append .nil
  have hl : (us ++ []).length = ps.length := r2.length.symm.trans (F.len _ _ _ _ q)
  refine wpAny_call (codeAny_mono (F.run X.A X.stack s1 H1 ⟨us, []⟩ (us ++ []) (vs ++ []) Q E hgd hr I1.env0 (hb s1 us I1.kIn hl) r2 q) fun r s' hq => ?_)
  cases r with
  | error e => exact hx pins σ H1 s1 e s' I1 hq
  | ok fl =>
    cases fl with
    | ret u => exact I1.after hq
    | next => exact hq.elim
    | brk => exact hq.elim
    | cont => exact hq.elim
/-- repr(d), d lists and tuples of any depth of numbers of no great size -/
def rRepr (K : PySem.W.Frag) : List V → Hp → VK → Prop := fun xs H Q => ∃ (a : Addr) (d : PyData), xs = [.ref a] ∧ Dp K H (.ref a) d ∧ d.showable = true ∧ d.hasDict = false ∧ d.depth ≤ 60 ∧ d.shown.length ≤ sizeLine ∧ Q (.str d.shown) H
theorem call_reprD (hgd : X.A.guards = some []) (hu : X.A.units + 64 < cLine) : CallR X (.builtin "repr") (rRepr X.K) := by
  intro pins s σ H xs us Q I r h
  obtain ⟨a, d, rfl, hd, h1, h2, h3, h4, q⟩ := h
  obtain rfl := Vals.ref1 r
  obtain ⟨as, rd⟩ := Dp.reads I d (.ref a) (.ref a) hd rfl
  exact repr_of_reads' rd h1 (PyData.noDict_hsm h2) hgd (by omega) (fun _ _ e => e) (fun h' u tk hk => ⟨.str _, H, I.kept (t' := tk) hk, ⟨_, rfl⟩, q⟩) h4
end
end L2
namespace G3
open PySem PySem.Spec PyProof.Rows L2
def HasG (P : Program) (w : World) (K : PySem.W.Frag) (mg : Str → Option Value) (base : Heap) (CX : CXT) (k : Nat) (x : Str) (ps : List Str) (sp : Sp) : Prop :=
  ∃ f fd, FnG P w K mg base CX k f fd ps sp ∧ mg x = some (.ref f) ∧ PySem.W.keepIn K (.ref f) = true ∧ Binds K fd ps []
theorem hasG_of {P : Program} {w : World} {K : PySem.W.Frag} {mg : Str → Option Value} {base : Heap} {k : Nat} {x nm : Str} {ps : List Str} {sp : Sp} {st : Stmt} {N : List Str} (D : DefAt K mg x nm st) (S : FnScope N ps (defScope st))
    (hb : ∀ (kV doc pm : Value) (an : Option Addr) (cdv ct : Value) (us : List Value), us.length = ps.length → bindArgs (PySem.W.fnOf nm nm (defArgs st) (defBody st) (defScope st) .none kV doc pm an cdv ct) ⟨us, []⟩ = pure (ps.zip us))
    (len : ∀ vs H Q E, sp vs H Q E → vs.length = ps.length)
    (hbody : ∀ (f : Addr) (cdv : Value) (A : Around) (outer : List Env) (s : Shared) (H : Hp) (vs : List V) (Q : VK) (E : XK), (A.deeper (envOfC nm (defScope st) s.heap.objs.size f cdv)).guards = some [] → Room k (A.deeper (envOfC nm (defScope st) s.heap.objs.size f cdv)) → sp vs H Q E →
      ∃ t, PSs (cxOf CX0 P w K mg base N nm (defScope st) f cdv A outer s H E).nox (defBody st) t ∧ t { nx := fun _ H' => Q .non H', rt := Q } (start N vs) H) : HasG P w K mg base CX0 (k + 1) x ps sp := by
  obtain ⟨f, fd, F, m⟩ := D
  obtain ⟨oc, od, kV, doc, pm, an, cdv, ct, osl, e, lk, hcd⟩ := F.ex
  have b := F.binds hb
  have kp := F.kp
  subst e
  refine ⟨f, _, fnG_of lk hcd S len fun A outer s H vs Q E hgd hr hs => ?_, m, kp, b⟩
  obtain ⟨t, h, q⟩ := hbody f cdv A outer s H vs Q E hgd hr hs
  exact ⟨t, h.nox, q⟩
theorem pe_hG {X : Cx} {CX : CXT} {k j : Nat} {x : Str} {ps : List Str} {sp : Sp} {E : XK} {p pos : Pos} {e : Expr} {es : List Expr} {t : TA} (hgd : X.A.guards = some []) (h : HasG X.prog X.w X.K X.mg X.base CX k x ps sp) (hr : Room j X.A) (hx : Passes CX X E)
    (ha : PA X (e :: es) t) (hk : k ≤ j := by first | decide | omega) (hg : Gl X x := by rfl) (hdb : (x == ("__debug__" : Str)) = false := by decide) (he : starEach (e :: es) X.env = (false, eval e X.env) :: starEach es X.env := by rfl) (hpl : (backTo pos (starEach es X.env)).any (·.1) = false := by rfl) :
    PE X (.Call (.Name x p) (e :: es) [] pos) (tCall sp [] E t) := by
  obtain ⟨f, fd, F, m, kp, b⟩ := h
  exact pe_callG hgd F (hr.mono hk) hg m kp b hx ha hdb he hpl
/-! ### how long a text of numbers is -/
theorem list_text (ts : List Str) : (listText ts).length ≤ piled ts + 2 := by
  have e2 : (("]" : String) : Str).length = 1 := rfl
  have e1 : (("[" : String) : Str).length = 1 := rfl
  unfold listText
  rw [strLen_append, e2]
  cases ts with
  | nil => show (("[" : String) : Str).length + 1 ≤ _; rw [e1]; omega
  | cons t ts =>
    show (textFrom 1 ((("[" : String) : Str) ++ (if 0 > 0 then ", " else "" : String) ++ t) ts).length + 1 ≤ _
    rw [textFrom_length_pos _ _ _ (by decide), strLen_append, strLen_append, e1, piled_cons]
    have : ((if 0 > 0 then ", " else "" : String) : Str).length = 0 := rfl
    rw [this]
    omega
end G3

set_option Elab.async false
set_option linter.all false
set_option maxRecDepth 100000
set_option maxHeartbeats 4000000
namespace G3
open PySem PySem.Spec PyProof.Rows L2
theorem Tree.good {n : Nat} {ps : List Pr} (h : Tree ps) (hl : ps.length + 1 = n) : Good n ps := by
  subst hl
  refine ⟨fun e he => ?_, h.spans⟩
  obtain ⟨j, hj, rfl⟩ := List.getElem_of_mem he
  obtain ⟨h1, h2⟩ := h j hj
  omega
theorem Prs.rep {H : Hp} {vs : List V} {ps : List Pr} (h : Prs H vs ps) : ∀ k : Nat, Prs H (List.replicate k vs).flatten (List.replicate k ps).flatten
  | 0 => True.intro
  | k + 1 => by
    rw [List.replicate_succ, List.replicate_succ, List.flatten_cons, List.flatten_cons]
    exact h.app (Prs.rep h k)
theorem Good.rep {n : Nat} {ps : List Pr} (h : Good n ps) (k : Nat) : Good n (List.replicate (k + 1) ps).flatten := by
  refine ⟨fun e he => ?_, ?_⟩
  · obtain ⟨l, hl, hel⟩ := List.mem_flatten.mp he
    rw [List.eq_of_mem_replicate hl] at hel
    exact h.1 e hel
  · rw [List.replicate_succ, List.flatten_cons]
    exact h.2.app
theorem rep_len {α : Type} {ps : List α} : ∀ k : Nat, (List.replicate k ps).flatten.length = k * ps.length
  | 0 => by simp
  | k + 1 => by rw [List.replicate_succ, List.flatten_cons, List.length_append, rep_len k, Nat.succ_mul, Nat.add_comm]
section
variable {P : Program} {w : World} {K : PySem.W.Frag} {mg : Str → Option Value} {base : Heap} {C : Addr}
abbrev n_law : List Str := ["script", "pool", "n", "edges", "k"]
abbrev p_law : List Str := ["script"]
theorem sc_law : FnScope n_law p_law (defScope s_law) := ⟨rfl, rfl, rfl, by decide +kernel, rfl, by decide +kernel, by decide +kernel⟩
def spLaw (K : PySem.W.Frag) : Sp := fun vs H Q _ => ∃ (a : Addr) (ns : List Int), vs = [.ref a] ∧ SqL K H a (ns.map V.int) ∧ ns.length ≤ 10000 ∧ ∀ H', Q (.bl true) H'
theorem ok_law (D : DefAt K mg "law" "law" s_law) (B : Bt mg) (h_law_pool : Has P w K mg base CX0 1 "_law_pool" p_law_pool (spPool K)) (h_law_pick : Has P w K mg base CX0 3 "_law_pick" p_law_pick (spPick K)) (h_law_take : Has P w K mg base CX0 2 "_law_take" p_law_take spTake)
    (h_law_graph : Has P w K mg base CX0 4 "_law_graph" p_law_graph spGraph) (h_law_so : Has P w K mg base CX0 8 "_law_so" p_law_so spSo) : HasG P w K mg base CX0 9 "law" p_law (spLaw K) := by
  refine hasG_of D sc_law (fun _ _ _ _ _ _ us hl => match us, hl with | [_], _ => rfl) (fun vs H Q E h => ?_) (fun f cdv A outer s H vs Q E hgd hr h => ?_)
  · obtain ⟨a, ns, rfl, _⟩ := h
    rfl
  · obtain ⟨a, ns, rfl, ha, hl, q⟩ := h
    refine ⟨_, (Evl.pss_cut (ps_set (i := 1) sc_law.nd rfl (.inl rfl) (pe_h h_law_pool hr pass0 (pa_cons (pv 0) pa_nil)))
  (Evl.pss_cut (ps_asg (pe_h h_law_graph hr pass0 (pa_cons (pv 1) (pa_cons (pe_h h_law_pick hr pass0 (pa_cons (pv 1) (pa_cons (pe_lst (pa_cons pe_int (pa_cons pe_int (pa_cons pe_int pa_nil)))) pa_nil))) (pa_cons (pe_h h_law_pick hr pass0 (pa_cons (pv 1) (pa_cons (pe_lst (pa_cons pe_int (pa_cons pe_int (pa_cons pe_int pa_nil)))) pa_nil))) pa_nil)))) (pgT (K := K) (n := 2) rfl rfl (pgs_cons (pg_name (i := 2) sc_law.nd rfl (.inl rfl)) (pgs_cons (pg_name (i := 3) sc_law.nd rfl (.inl rfl)) pgs_nil))))
  (Evl.pss_cut (ps_if (pt_not (pt_val (pe_h h_law_so hr pass0 (pa_cons (pv 1) (pa_cons (pv 2) (pa_cons (pv 3) (pa_cons pe_int pa_nil))))))) (pss_one (ps_ret pe_bl)) pss_nil)
  (Evl.pss_cut (ps_asg (pe_h h_law_graph hr pass0 (pa_cons (pv 1) (pa_cons (pe_h h_law_pick hr pass0 (pa_cons (pv 1) (pa_cons (pe_lst (pa_cons pe_int (pa_cons pe_int (pa_cons pe_int pa_nil)))) pa_nil))) (pa_cons (pe_h h_law_pick hr pass0 (pa_cons (pv 1) (pa_cons (pe_lst (pa_cons pe_int (pa_cons pe_int (pa_cons pe_int (pa_cons pe_int pa_nil))))) pa_nil))) pa_nil)))) (pgT (K := K) (n := 2) rfl rfl (pgs_cons (pg_name (i := 2) sc_law.nd rfl (.inl rfl)) (pgs_cons (pg_name (i := 3) sc_law.nd rfl (.inl rfl)) pgs_nil))))
  (Evl.pss_cut (ps_if (pt_cmpR op_gt (pe_callB (lenK (K := K) rfl) rfl B.len PySem.boot_len (pa_cons (pv 3) pa_nil)) pe_int (nomark _)) (pss_one (ps_setLc (i := 3) (own := [("k", 4)]) (g := gName 4) (tt := tYes) rfl sc_law.nd rfl rfl (sw_true rfl rfl rfl (by decide +kernel)) (pi_range2 rfl B.range (pa_cons pe_int (pa_cons (pv 2) pa_nil))) (blkOk_by (N := n_law) (sc := defScope s_law) (by decide +kernel)) (fun _ _ _ _ _ => (pg_name (i := 4) sc_law.nd rfl (.inl rfl))) (fun _ _ _ _ _ => pts_nil) (fun _ _ _ _ _ => (pe_tup (pa_cons (pe_op op_sub (pv 4) pe_int) (pa_cons (pv 4) pa_nil)))))) pss_nil)
  (Evl.pss_cut (ps_if (pt_not (pt_val (pe_h h_law_so hr pass0 (pa_cons (pv 1) (pa_cons (pv 2) (pa_cons (pv 3) (pa_cons pe_int pa_nil))))))) (pss_one (ps_ret pe_bl)) pss_nil)
  (pss_cons (ps_if (pt_cmpR op_gt (pe_h h_law_take hr pass0 (pa_cons (pv 1) (pa_cons pe_int pa_nil))) pe_int (nomark _)) (pss_one (ps_ret pe_bl)) pss_nil)
  (pss_cons (ps_set (i := 2) sc_law.nd rfl (.inl rfl) (pe_op op_add pe_int (pe_h h_law_take hr pass0 (pa_cons (pv 1) (pa_cons pe_int pa_nil)))))
  (pss_one (ps_ret (pe_h h_law_so hr pass0 (pa_cons (pv 1) (pa_cons (pv 2) (pa_cons (pe_op op_rep (pe_lc (own := [("k", 4)]) (g := gName 4) (tt := tYes) rfl sc_law.nd (pi_range2 rfl B.range (pa_cons pe_int (pa_cons (pv 2) pa_nil))) (blkOk_by (N := n_law) (sc := defScope s_law) (by decide +kernel)) (fun _ _ _ _ _ => (pg_name (i := 4) sc_law.nd rfl (.inl rfl))) (fun _ _ _ _ _ => pts_nil) (fun _ _ _ _ _ => (pe_tup (pa_cons (pe_op op_sub (pv 4) pe_int) (pa_cons (pv 4) pa_nil))))) (pe_op op_add pe_int (pe_h h_law_take hr pass0 (pa_cons (pv 1) (pa_cons pe_int pa_nil))))) (pa_cons pe_int pa_nil))))))))))))))), ?_⟩
    refine ⟨fun σ H1 => ∃ p, σ = [some (.ref a), some (.ref p), none, none, none] ∧ PoolAt H1 p, ?_, ?_⟩
    · exact ⟨_, rfl, a, ns, rfl, ha, hl, fun H' p _ hp => ⟨p, rfl, hp⟩⟩
    rintro σ H1 ⟨p, rfl, hp1⟩
    refine ⟨fun σ H3 => ∃ (l : Addr) (n : Nat) (es : List Pr), σ = [some (.ref a), some (.ref p), some (nV n), some (.ref l), none] ∧ PoolAt H3 p ∧ PLst H3 l es ∧ Good n es ∧ 1 ≤ n ∧ n ≤ 64 ∧ es.length ≤ 400, ?_, ?_⟩
    · refine ⟨_, rfl, _, rfl, by show 3 ≤ sizeLine; decide, fun L1 n1 => ?_⟩
      have s1 : Same H1 (upd H1 L1 (.lst [.int 4, .int 8, .int 14])) := same_upd n1
      refine ⟨p, L1, _, rfl, hp1.same s1, SqL.of upd_same, by show 0 < 3; decide, by show 3 < 1000000000; decide, fun i1 v1 hv1 => ?_⟩
      obtain ⟨most, rfl, m1, m2⟩ : ∃ m : Int, v1 = .int m ∧ 1 ≤ m ∧ m ≤ 64 := by
        have hm := List.mem_of_getElem? hv1
        simp only [List.mem_cons, List.not_mem_nil, or_false] at hm
        rcases hm with rfl | rfl | rfl
        · exact ⟨_, rfl, by decide, by decide⟩
        · exact ⟨_, rfl, by decide, by decide⟩
        · exact ⟨_, rfl, by decide, by decide⟩
      generalize upd H1 L1 (.lst [.int 4, .int 8, .int 14]) = H3 at s1 ⊢
      refine ⟨_, rfl, by show 3 ≤ sizeLine; decide, fun L2 n2 => ?_⟩
      have s2 : Same H3 (upd H3 L2 (.lst [.int 0, .int 3, .int 12])) := same_upd n2
      refine ⟨p, L2, _, rfl, hp1.same (s1.trans s2), SqL.of upd_same, by show 0 < 3; decide, by show 3 < 1000000000; decide, fun i2 v2 hv2 => ?_⟩
      obtain ⟨gen, rfl, g1, g2⟩ : ∃ m : Int, v2 = .int m ∧ 0 ≤ m ∧ m ≤ 337 := by
        have hm := List.mem_of_getElem? hv2
        simp only [List.mem_cons, List.not_mem_nil, or_false] at hm
        rcases hm with rfl | rfl | rfl
        · exact ⟨_, rfl, by decide, by decide⟩
        · exact ⟨_, rfl, by decide, by decide⟩
        · exact ⟨_, rfl, by decide, by decide⟩
      generalize upd H3 L2 (.lst [.int 0, .int 3, .int 12]) = H4 at s2 ⊢
      have hp4 := hp1.same (s1.trans s2)
      refine ⟨p, most, gen, rfl, hp4, m1, m2, g1, g2, fun H5 t l n es s5 ht _ hpl hn1 hn2 good hel => ?_⟩
      exact ⟨t, _, rfl, SqT.of ht, rfl, _, _, rfl, _, _, rfl, rfl, l, n, es, rfl, hp4.same s5, hpl, good, hn1, by omega, by omega⟩
    rintro σ H3 ⟨l, n, es, rfl, hp3, hpl, good, hn1, hn, he⟩
    refine ⟨fun σ H4 => σ = [some (.ref a), some (.ref p), some (nV n), some (.ref l), none] ∧ PoolAt H4 p, ?_, ?_⟩
    · refine ⟨_, rfl, _, rfl, _, rfl, p, l, n, es, 300, rfl, hp3, hpl, good, hn1, hn, he, fun H4 s4 => ?_⟩
      exact ⟨_, rfl, iteF ⟨rfl, hp3.same s4⟩⟩
    rintro σ H4 ⟨rfl, hp4⟩
    clear hp3 hpl good hn1 hn he
    refine ⟨fun σ H3 => ∃ (l : Addr) (n : Nat) (es : List Pr), σ = [some (.ref a), some (.ref p), some (nV n), some (.ref l), none] ∧ PoolAt H3 p ∧ PLst H3 l es ∧ Good n es ∧ 1 ≤ n ∧ n ≤ 64 ∧ es.length ≤ 400, ?_, ?_⟩
    · refine ⟨_, rfl, _, rfl, by show 3 ≤ sizeLine; decide, fun L1 n1 => ?_⟩
      have s1 : Same H4 (upd H4 L1 (.lst [.int 20, .int 40, .int 64])) := same_upd n1
      refine ⟨p, L1, _, rfl, hp4.same s1, SqL.of upd_same, by show 0 < 3; decide, by show 3 < 1000000000; decide, fun i1 v1 hv1 => ?_⟩
      obtain ⟨most, rfl, m1, m2⟩ : ∃ m : Int, v1 = .int m ∧ 1 ≤ m ∧ m ≤ 64 := by
        have hm := List.mem_of_getElem? hv1
        simp only [List.mem_cons, List.not_mem_nil, or_false] at hm
        rcases hm with rfl | rfl | rfl
        · exact ⟨_, rfl, by decide, by decide⟩
        · exact ⟨_, rfl, by decide, by decide⟩
        · exact ⟨_, rfl, by decide, by decide⟩
      generalize upd H4 L1 (.lst [.int 20, .int 40, .int 64]) = H5 at s1 ⊢
      refine ⟨_, rfl, by show 4 ≤ sizeLine; decide, fun L2 n2 => ?_⟩
      have s2 : Same H5 (upd H5 L2 (.lst [.int 0, .int 5, .int 40, .int 300])) := same_upd n2
      refine ⟨p, L2, _, rfl, hp4.same (s1.trans s2), SqL.of upd_same, by show 0 < 4; decide, by show 4 < 1000000000; decide, fun i2 v2 hv2 => ?_⟩
      obtain ⟨gen, rfl, g1, g2⟩ : ∃ m : Int, v2 = .int m ∧ 0 ≤ m ∧ m ≤ 337 := by
        have hm := List.mem_of_getElem? hv2
        simp only [List.mem_cons, List.not_mem_nil, or_false] at hm
        rcases hm with rfl | rfl | rfl | rfl
        · exact ⟨_, rfl, by decide, by decide⟩
        · exact ⟨_, rfl, by decide, by decide⟩
        · exact ⟨_, rfl, by decide, by decide⟩
        · exact ⟨_, rfl, by decide, by decide⟩
      generalize upd H5 L2 (.lst [.int 0, .int 5, .int 40, .int 300]) = H6 at s2 ⊢
      have hp6 := hp4.same (s1.trans s2)
      refine ⟨p, most, gen, rfl, hp6, m1, m2, g1, g2, fun H7 t l n es s7 ht _ hpl hn1 hn2 good hel => ?_⟩
      exact ⟨t, _, rfl, SqT.of ht, rfl, _, _, rfl, _, _, rfl, rfl, l, n, es, rfl, hp6.same s7, hpl, good, hn1, by omega, by omega⟩
    clear hp4
    rintro σ H3 ⟨l, n, es, rfl, hp3, hpl, good, hn1, hn, he⟩
    refine ⟨fun σ H4 => σ = [some (.ref a), some (.ref p), some (nV n), some (.ref l), none] ∧ H4 = H3, ?_, ?_⟩
    · obtain ⟨vs, hv, lv⟩ := hpl.size
      refine ⟨_, rfl, _, es.length, rfl, .inl ⟨vs, SqL.of hv, lv.symm⟩, _, _, rfl, rfl, _, rfl, ifD (fun z => absurd z (by omega)) (fun _ => ⟨rfl, rfl⟩)⟩
    rintro σ H4 ⟨rfl, rfl⟩
    refine ⟨fun σ H4 => σ = [some (.ref a), some (.ref p), some (nV n), some (.ref l), none] ∧ PoolAt H4 p, ?_, ?_⟩
    · refine ⟨_, rfl, _, rfl, _, rfl, p, l, n, es, 30, rfl, hp3, hpl, good, hn1, hn, he, fun H4 s4 => ?_⟩
      exact ⟨_, rfl, iteF ⟨rfl, hp3.same s4⟩⟩
    rintro σ H5 ⟨rfl, hp5⟩
    clear hp3 hpl good hn1 hn he
    refine ⟨_, rfl, p, 4, rfl, hp5, by decide, by decide, fun r0 _ _ => ?_⟩
    refine ⟨_, _, rfl, rfl, _, rfl, ifD (fun _ => q _) (fun _ => ?_)⟩
    refine nx_ ?_
    refine ⟨_, rfl, p, 63, rfl, hp5, by decide, by decide, fun r r0 r1 => ?_⟩
    obtain ⟨m, rfl⟩ : ∃ m : Nat, r = m := ⟨r.toNat, by omega⟩
    refine ⟨_, _, rfl, rfl, ?_⟩
    have em : V.int (2 + (m : Int)) = nV (m + 2) := congrArg V.int (by omega)
    show gName 2 (V.int (2 + (m : Int))) _ _ _
    rw [em]
    refine nx_ ?_
    refine ⟨_, rfl, _, rfl, _, rfl, 1, _, rfl, ⟨by omega, by omega, by omega, by omega⟩, fun L nL => ?_⟩
    have ek : ∀ i : Nat, V.int (1 + (i : Int)) = nV (i + 1) := fun i => congrArg V.int (by omega)
    refine lc_range (lo := 1) (n := (((m + 2 : Nat) : Int) - 1).toNat) (TreeAt H5 L) (treeAt_nil nL) ?_ ?_
    · rintro i H6 hi t
      rw [ek i]
      refine ⟨rfl, yes_ ?_⟩
      refine ⟨_, rfl, _, _, rfl, rfl, _, rfl, by show 2 ≤ sizeLine; decide, fun T nT => ?_⟩
      exact tree_push nL t nT (congrArg V.int (by omega : ((i + 1 : Nat) : Int) - 1 = (i : Int))) (Nat.le_refl _) (by omega)
    · intro H6 t
      have hp6 : PoolAt H6 p := hp5.same t.1
      obtain ⟨s6, ps, ⟨vs, hv, hvs⟩, tr, el⟩ := t
      refine ⟨_, rfl, p, 6, rfl, hp6, by decide, by decide, fun r2 r20 r21 => ?_⟩
      obtain ⟨k, rfl⟩ : ∃ k : Nat, r2 = k := ⟨r2.toNat, by omega⟩
      refine ⟨_, _, rfl, rfl, ?_⟩
      have lps : ps.length = m + 1 := by omega
      have lvs := hvs.len
      have ekk : (1 + (k : Int)).toNat = k + 1 := by omega
      refine ⟨L, 1 + (k : Int), vs, rfl, rfl, hv, by omega, by omega, size_le (by rw [ekk, lvs, lps]; exact Nat.le_trans (Nat.mul_le_mul (show m + 1 ≤ 63 by omega) (show k + 1 ≤ 6 by omega)) (by decide)), fun L2 nL2 => ?_⟩
      rw [ekk]
      have s7 : Same H6 (upd H6 L2 (.lst (List.replicate (k + 1) vs).flatten)) := same_upd nL2
      refine ⟨p, L2, m + 2, (List.replicate (k + 1) ps).flatten, 300, rfl, hp6.same s7, ⟨_, upd_same, (hvs.rep (k + 1)).same s7⟩, (tr.good (by omega)).rep k, by omega, by omega, ?_, fun H8 s8 => q H8⟩
      rw [rep_len, lps]
      exact Nat.le_trans (Nat.mul_le_mul (show k + 1 ≤ 6 by omega) (show m + 1 ≤ 63 by omega)) (by decide)
end
end G3

set_option Elab.async false
set_option linter.all false
set_option maxRecDepth 100000
set_option maxHeartbeats 2000000
namespace G3
open PySem PySem.Spec PyProof.Rows L2
section
variable {P : Program} {w : World} {K : PySem.W.Frag} {mg : Str → Option Value} {base : Heap}
abbrev n_is_whole_at7 : List Str := ["value"]
abbrev p_is_whole_at7 : List Str := ["value"]
theorem sc_is_whole_at7 : FnScope n_is_whole_at7 p_is_whole_at7 (defScope s_is_whole_at7) := ⟨rfl, rfl, rfl, by decide +kernel, rfl, by decide +kernel, by decide +kernel⟩
theorem ok_is_whole_g {x : Str} (D : DefAt K mg x "is_whole" s_is_whole_at7) (B : Bt mg) : Has P w K mg base CX0 1 x p_is_whole (spIsI K) := by
  refine has_of D sc_is_whole_at7 (fun _ _ _ _ _ _ us hl => match us, hl with | [_], _ => rfl) (fun vs H Q E h => ?_) (fun f cdv A outer s H vs Q E hr h => ?_)
  · obtain ⟨x, d, rfl, _⟩ := h
    rfl
  · obtain ⟨x, d, rfl, hd, q⟩ := h
    refine ⟨_, (pss_one (ps_ret (pe_and (pe_callB (isiK (K := K) rfl) rfl B.isinstance (by decide +kernel) (pa_cons (pv 0) (pa_cons (pe_bltn (v := .ty "int") (u := .type "int") rfl B.int (by decide +kernel) rfl) pa_nil))) (pe_one (pe_not (pe_callB (isiK (K := K) rfl) rfl B.isinstance (by decide +kernel) (pa_cons (pv 0) (pa_cons (pe_bltn (v := .ty "bool") (u := .type "bool") rfl B.bool (by decide +kernel) rfl) pa_nil)))))))), ?_⟩
    have ty := Dp.ty hd
    refine ⟨_, rfl, _, _, _, _, _, rfl, .ty _, ty, kt_int d, _, rfl, ?_⟩
    cases hd with
    | non => exact iteF q
    | bl b => exact iteT ⟨_, rfl, _, _, _, _, _, rfl, .ty _, ty, kt_bool _, _, rfl, q⟩
    | int i => exact iteT ⟨_, rfl, _, _, _, _, _, rfl, .ty _, ty, kt_bool _, _, rfl, q⟩
    | str x => exact iteF q
    | lst _ _ => exact iteF q
    | tup _ _ => exact iteF q
end
end G3

set_option Elab.async false
set_option linter.all false
set_option maxRecDepth 100000
set_option maxHeartbeats 4000000
/-! The head's end for a promise that holds where no repr is under way; facts of own errors with super().__init__. -/
namespace L2
open PySem PySem.Spec PyProof.Rows
theorem law_callG {P : Program} {w : World} {K : PySem.W.Frag} {mg mb : Str → Option Value} {CX : CXT} {k : Nat} {fa a : Addr} {x : Str} {sp : Sp} {s₁ : Shared} {vs : List Value} {ns : List Int}
    (KX : K.In s₁.heap) (hns : s₁.heap.Ns mainGlobals mg) (hb : s₁.heap.Ns builtinsNs mb) (hbb : ∀ x : Str, x ≠ "__name__" → mb x = bootBuiltins x) (hlim : s₁.heap.NoLimit) (hg : s₁.gens = #[])
    (ha : s₁.heap.get? a = some { cls := .type "list", data := .seq vs.toArray }) (hi : IntsAre vs ns) (hl : ns.length ≤ sizeLine) (hr : Room k callerA)
    (F : ∀ base : Heap, K.In base → base.Ns mainGlobals mg → ∃ fd, FnG P w K mg base CX k fa fd [x] sp ∧ Binds K fd [x] [])
    (hsp : ∀ H : Hp, Only H → SqL K H a (ns.map V.int) → sp [.ref a] H (fun v _ => v = .bl true) fun _ _ _ => False)
    (hCX : ∀ H e s', CX [] H s₁ (fun _ _ _ => False) e s' → False) :
    codeAny (model P w) callerA (.call (.ref fa) ⟨[.ref a], []⟩) (fun r s' => r = .ok (.ret (.bool true)) ∧ OldK s₁.heap s'.heap ∧ s'.os = s₁.os ∧ AllBare s'.gens) s₁ := by
  have rv := vals_ints hi
  -- for any H in which only the script may stand
  have main : ∀ H : Hp, Only H → SqL K H a (ns.map V.int) → HOk P w H s₁.heap → (∀ b, H b ≠ none → b = a) → (H a ≠ none → K.lookup a = none) →
      codeAny (model P w) callerA (.call (.ref fa) ⟨[.ref a], []⟩) (fun r s' => r = .ok (.ret (.bool true)) ∧ OldK s₁.heap s'.heap ∧ s'.os = s₁.os ∧ AllBare s'.gens) s₁ := by
    intro H hO hS hok hA hK
    have notIt : ∀ {b : Addr} {o : Obj} {es : Array DictEntry} {ep : Nat}, s₁.heap.get? b = some o → o.data = .dict es ep → H b = none := fun {b o es ep} e d => by
      by_cases z : H b = none
      · exact z
      · have e' := hA b z
        rw [e', ha] at e
        cases e
        cases (show Data.seq vs.toArray _ = Data.dict es ep from d)
    have nsK : ∀ {b : Addr} {m : Str → Option Value}, s₁.heap.Ns b m → (hidT s₁.heap H).Ns b m := fun {b m} ⟨o, es, ep, e, d, r⟩ => ⟨o, es, ep, hidT_get e (notIt e d), d, r⟩
    have hKb : K.In (hidT s₁.heap H) := fun b o e => hidT_get (KX b o e) (by
      by_cases z : H b = none
      · exact z
      · have e' := hA b z
        rw [e'] at z e
        rw [hK z] at e
        cases e)
    have hM : Mod K mg (hidT s₁.heap H) := ⟨hKb, nsK hns, ⟨mb, nsK hb, hbb⟩, let ⟨mc, h1, h2⟩ := hlim; ⟨mc, nsK h1, h2⟩⟩
    have e0 : Env0 P w K mg (hidT s₁.heap H) callerA [] s₁ H := ⟨rfl, hM, fun b o e => of_hidT e, Nat.le_of_eq (hidT_size _ _), trivial, fun b hb => absurd (show b ∈ ([] : List Addr) from hb) (by simp), hok, .of_eq hg⟩
    obtain ⟨fd, hF, hB⟩ := F _ hKb (nsK hns)
    refine codeAny_mono (hF.run callerA [] s₁ H ⟨[.ref a], []⟩ [.ref a] [.ref a] _ _ rfl hr e0 (hB s₁ [.ref a] KX rfl) (.cons rfl .nil) (hsp H hO hS)) fun r s' h => ?_
    cases r with
    | error e => exact (hCX H e s' h).elim
    | ok fl =>
      cases fl with
      | next => exact h.elim
      | brk => exact h.elim
      | cont => exact h.elim
      | ret u =>
        obtain ⟨v, H', os, bare, un, hok', r', q⟩ := h
        obtain rfl : v = .bl true := q
        obtain rfl : u = Value.bool true := r'
        refine ⟨rfl, OldK.of_keep fun b o e => ?_, os, bare⟩
        rcases hO b with q | ⟨ob, xs, z⟩
        · exact un.keep b o e q (by intro z; exact absurd (show b ∈ ([] : List Addr) from z) (by simp)) (by simp)
        · obtain ⟨e1, _⟩ := hok b _ z
          obtain ⟨e2, _⟩ := hok' b _ (un.frzs b ob _ z)
          rw [e] at e1
          cases e1
          exact e2
  cases hk : K.lookup a with
  | some o =>
    have e := KX a o hk
    rw [ha] at e
    cases e
    exact main (fun _ => none) (fun _ => .inl rfl) (.inr ⟨_, vs.toArray, _, hk, rfl, rfl, rfl, by rw [List.size_toArray, hi.length]; exact hl, by simpa using rv⟩) (fun b u z => by cases (show (none : Option HO) = some u from z)) (fun b z => absurd rfl z) fun z => absurd rfl z
  | none =>
    refine main (fun b => if b = a then some (.frz { cls := .type "list", data := .seq vs.toArray } (.lst (ns.map V.int))) else none) (fun b => ?_) (.inl (.inr ⟨{ cls := .type "list", data := .seq vs.toArray }, if_pos rfl⟩)) (fun b u z => ?_) (fun b z => ?_) fun _ => hk
    · by_cases hb : b = a
      · exact .inr ⟨_, _, if_pos hb⟩
      · exact .inl (if_neg hb)
    · by_cases hb : b = a
      · cases (if_pos hb).symm.trans z
        subst hb
        exact ⟨ha, by rw [List.length_map]; exact hl, vs, _, rv, ha⟩
      · cases (if_neg hb).symm.trans z
    · by_cases hb : b = a
      · exact hb
      · exact absurd (if_neg hb) z
theorem walk_ofG {l : PySem.W.OpenLaw} {n k : Nat} {q : Program} {loose : List Str} {XP : (Str → Option Value) → Heap → Prop} {YP : World → Heap → Prop} {d : DefRec} {CX : CXT} {x : Str}
    (hn : l.most = some n) (hn2 : n ≤ sizeLine) (hdf : d.params.defaults = []) (hr : Room k callerA)
    (F : ∀ (w : World) (mg : Str → Option Value) (fa : Addr) (h : Heap), YP w h → h.Ns mainGlobals mg → mg d.name = some (.ref fa) →
      ∃ (K : PySem.W.Frag) (sp : Sp), K.In h ∧
        (∀ (H : Hp) (a : Addr) (ns : List Int), ns.length ≤ n → Only H → SqL K H a (ns.map V.int) → sp [.ref a] H (fun v _ => v = .bl true) fun _ _ _ => False) ∧
        ∀ base : Heap, K.In base → base.Ns mainGlobals mg → ∃ fd, FnG l.prog w K mg base CX k fa fd [x] sp ∧ Binds K fd [x] [])
    (hCX : ∀ (H : Hp) (s : Shared) (e : Value) (s' : Shared), CX [] H s (fun _ _ _ => False) e s' → False) :
    PySem.W.WalkO q loose XP YP l.row.toRowW d [] (fun f vs => PySem.call f vs) := by
  refine Att.attach_call hn hdf fun w s₀ s₁ mg mb fa o pm cd doc a vs ns G Y ho hd hcd hmg hobj hints hlen hg => ?_
  obtain ⟨K, sp, KX, hsp, hF⟩ := F w mg fa _ Y G.T.g hmg
  exact law_callG KX G.T.g G.T.b G.T.builtins G.T.nolimit hg hobj hints (Nat.le_trans hlen hn2) hr hF (fun H hO hS => hsp H a ns hlen hO hS) fun H e s' => hCX H s₁ e s'
end L2
namespace SupX
open PySem PySem.W PySem.Calls PyProof.Rows PySem.HandSPX
/-! ### such a class, asked of the written part -/
def clsB (K : Frag) (C : Addr) : Bool := match K.lookup C with
  | some ⟨.type "type", _, .cls ⟨_, _, .ref C' :: bm, _, _, true, _, _, _, _, false⟩, sl⟩ => (match sl.toList with
    | [_, _, _, _, some (.builtin n), _] => decide (C' = C) && (decide (n = "ValueError.__new__") && refsVE bm)
    | _ => false)
  | _ => false
theorem clsB_ok {K : Frag} {C : Addr} (h : clsB K C = true) : ∃ nm q N bs bm sn sub ab col dd k0 k1 k2 k3 k5, K.lookup C = some (excClassObj nm q C N bs bm true sn sub ab col dd k0 k1 k2 k3 k5 "ValueError.__new__") ∧ refsVE bm = true := by
  unfold clsB at h
  split at h
  · rename_i dd nm bs C' bm ns qn sn sub ab col sl ho
    split at h
    · rename_i k0 k1 k2 k3 n k5 hs
      simp only [Bool.and_eq_true, decide_eq_true_eq] at h
      obtain ⟨rfl, rfl, h3⟩ := h
      have e : sl = #[k0, k1, k2, k3, some (.builtin "ValueError.__new__"), k5] := by
        obtain ⟨l⟩ := sl
        simp only at hs
        rw [hs]
      subst e
      exact ⟨_, _, _, _, bm, _, _, _, _, _, k0, k1, k2, k3, k5, ho, h3⟩
    · cases h
  · cases h
/-- the closure and the code object of its __init__ -/
def fnB (K : Frag) (file : Str) (qual : Str) (C fI : Addr) : Bool := match K.lookup fI with
  | some ⟨_, _, .func fd, _⟩ => (match fd.closure, fd.code, fd.defaults, fd.kwdefaults with
    | [(nm, cc)], .ref cda, .none, .none => decide (nm = "__class__") && (codeIn K (.ref cda) qual && ((match K.lookup cc with
        | some ⟨_, _, .cell (some (.ref C')), _⟩ => decide (C' = C)
        | _ => false) && (match K.lookup cda with
        | some ⟨_, _, .fields vs, _⟩ => (match (vs[2]? : Option Value) with
          | some (Value.str fl _) => file == fl
          | _ => false)
        | _ => false)))
    | _, _, _, _ => false)
  | _ => false
abbrev FnC : Type := Option (Str × Str × Arguments × FuncBody × Scope × Addr × Addr)
def fnC (K : Frag) (fI : Addr) : FnC := match K.lookup fI with
  | some ⟨_, _, .func fd, _⟩ => some (fd.name, fd.qualname, fd.params, fd.body, fd.scope, fd.globals, fd.builtins)
  | _ => none
theorem fn_ok {K : Frag} {file qual : Str} {C fI : Addr} {ps : Arguments} {body : List Stmt} {sc : Scope} (e : fnC K fI = some (("__init__" : Str), qual, ps, FuncBody.stmts body, sc, mainGlobals, builtinsNs)) (h : fnB K file qual C fI = true) :
    ∃ (oc : Value) (od : Option Addr) (doc pm : Value) (an : Option Addr) (ct : Value) (osl : Array (Option Value)) (cda cc : Addr),
      K.lookup fI = some ⟨oc, od, .func (ksFn "__init__" qual ps body sc .none .none doc pm an (.ref cda) ct cc), osl⟩ ∧ codeIn K (.ref cda) qual = true ∧
      (∃ (cl : Value) (cld : Option Addr) (csl : Array (Option Value)), K.lookup cc = some ⟨cl, cld, .cell (some (.ref C)), csl⟩) ∧
      ∃ (ccl : Value) (cdd : Option Addr) (ccs : Array (Option Value)) (vs : Array Value) (fl : Str) (tf : Tok), K.lookup cda = some ⟨ccl, cdd, .fields vs, ccs⟩ ∧ vs[2]? = some (.str fl tf) ∧ (file == fl) = true := by
  unfold fnB at h
  unfold fnC at e
  cases q : K.lookup fI with
  | none => rw [q] at h; cases h
  | some o =>
    obtain ⟨oc, od, dt, osl⟩ := o
    rw [q] at h e
    cases dt with
    | func fd =>
      obtain ⟨n1, n2, n3, n4, n5, n6, n7, n8, n9, n10, n11, n12, n13, n14, n15⟩ := fd
      have e2 : (some (n1, n2, n3, n4, n5, n6, n15) : FnC) = some (("__init__" : Str), qual, ps, FuncBody.stmts body, sc, mainGlobals, builtinsNs) := e
      simp only [Option.some.injEq, Prod.mk.injEq] at e2
      obtain ⟨h1, h2, h3, h4, h5, h6, h8⟩ := e2
      subst h1 h2 h3 h4 h5 h6 h8
      dsimp only at h
      split at h
      · rename_i nm cc cda
        simp only [Bool.and_eq_true, decide_eq_true_eq] at h
        obtain ⟨rfl, hc, hcc, hcd⟩ := h
        refine ⟨oc, od, n10, n11, n12, n14, osl, cda, cc, rfl, hc, ?_, ?_⟩
        · split at hcc
          · rename_i c1 c2 C' c3 ho
            obtain rfl : C' = C := of_decide_eq_true hcc
            exact ⟨_, _, _, ho⟩
          · cases hcc
        · split at hcd
          · rename_i c1 c2 vs c3 ho
            split at hcd
            · rename_i fl tf hv
              exact ⟨_, _, _, vs, fl, tf, ho, hv, hcd⟩
            · cases hcd
          · cases hcd
      · cases h
    | _ => cases h
def eqO (a b : Option (Option Value)) : Bool := decide (a = b)
def eqB (a : Option Bool) (b : Bool) : Bool := decide (a = some b)
/-- the class x with its __init__ -/
def supB (K : Frag) (file x qual : Str) : Bool :=
  clsB K (He.ga K x) && (eqO (findIn K (.ref (He.ga K x)) "__setattr__") (some (some (.builtin "object.__setattr__"))) && (eqO (findIn K (.ref (He.ga K x)) "__getattribute__") (some (some (.builtin "BaseException.__getattribute__"))) &&
  (eqO (findIn K (.ref (He.ga K x)) "__getattr__") (some none) && (eqO (findIn K (.ref (He.ga K x)) "number") (some none) && (eqO (findIn K (.ref (He.ga K x)) "__init__") (some (some (.ref (He.ma K (He.ga K x) "__init__")))) &&
  (decide (typeIn K (.ref (He.ma K (He.ga K x) "__init__")) = some (.type "function")) && (keepIn K (.ref (He.ga K x)) && (eqB (subIn K (.ref (He.ga K x)) (.type "BaseException")) true && (eqB (subIn K (.ref (He.ga K x)) (.type "ValueError")) true &&
  (decide (typeIn K (.ref (He.ga K x)) = some (.type "type")) && (hasDictIn K (He.ga K x) && (eqO (ks_superIn K (He.ga K x) (He.ga K x) "__init__") (some (some (.builtin "ValueError.__init__"))) && (eqB (mroIn K (He.ga K x) (.ref (He.ga K x))) true &&
  (eqO (nsIn K cStatics "thirdparty.any") (some none) && fnB K file qual (He.ga K x) (He.ma K (He.ga K x) "__init__")))))))))))))))
theorem sup_ok {prog : Program} {K : Frag} {mg : Str → Option Value} {x qual : Str} {p1 p2 q1 q2 q3 q4 q5 q6 q7 q8 q9 q10 : Pos} (gC : mg x = some (.ref (He.ga K x))) (free : mg "super" = none) (htop : (prog.main.scope.names.lookup (Str.ofString "super")).isSome = false)
    (e : fnC K (He.ma K (He.ga K x) "__init__") = some ((("__init__" : Str)), qual, iA p1 p2, FuncBody.stmts (iB q1 q2 q3 q4 q5 q6 q7 q8 q9 q10), iS, mainGlobals, builtinsNs)) (hq : (q3.endLine == q5.line) = true) (h : supB K (prog.main.file : Str) x qual = true) :
    SupTxt prog K mg x (He.ga K x) (He.ma K (He.ga K x) "__init__") := by
  unfold supB at h
  simp only [Bool.and_eq_true] at h
  obtain ⟨h1, h2, h3, h4, h5, h6, h7, h8, h9, h10, h11, h12, h13, h14, h15, h16⟩ := h
  obtain ⟨oc, od, doc, pm, an, ct, osl, cda, cc, k1, k2, k3, k4⟩ := fn_ok e h16
  exact ⟨gC, clsB_ok h1, of_decide_eq_true h2, of_decide_eq_true h3, of_decide_eq_true h4, of_decide_eq_true h5, of_decide_eq_true h6, of_decide_eq_true h7, h8, of_decide_eq_true h9, of_decide_eq_true h10, of_decide_eq_true h11, h12, of_decide_eq_true h13, of_decide_eq_true h14, of_decide_eq_true h15, free, htop,
    oc, od, doc, pm, an, ct, osl, p1, p2, q1, q2, q3, q4, q5, q6, q7, q8, q9, q10, qual, cda, cc, k1, k2, hq, k3, k4⟩
/-! ### a Hook that asks of these too -/
abbrev AlX : Type := Bool × List He.FnW × List FnC
def obsX (fa : List He.Fa) (fn : List He.DefD) (sup : List Str) (mine : Frag → Bool) (K : Frag) : AlX := ((He.obsD fa fn K).1 && mine K, (He.obsD fa fn K).2, sup.map fun x => fnC K (He.ma K (He.ga K x) "__init__"))
def valX (fn : List He.DefD) (sv : List FnC) : AlX := (true, (He.valD fn).2, sv)
def obsXG (n : Nat) (fa : List He.Fa) (fn : List He.DefD) (sup : List Str) (mine : Frag → Bool) (g : Addr → Option Obj) : AlX := obsX fa fn sup mine (He.frG g (He.asD g n ++ [cStatics]))
def hookX (n : Nat) (fa : List He.Fa) (fn : List He.DefD) (sup : List Str) (sv : List FnC) (mine : Frag → Bool) : PySem.W.Hook where
  α := AlX
  obs := fun s => obsXG n fa fn sup mine s.heap.get?
  val := fun _ => valX fn sv
  says := fun _ h => ∃ K : Frag, K.In h ∧ obsX fa fn sup mine K = valX fn sv
  of := fun _ _ e => ⟨_, He.frG_in, e⟩
  keeps := fun _ _ _ ⟨K, hK, c⟩ k => ⟨K, PySem.W.Frag.In.keeps hK k, c⟩
theorem obsXG_eq {n : Nat} {fa : List He.Fa} {fn : List He.DefD} {sup : List Str} {sv : List FnC} {mine : Frag → Bool} {g : Addr → Option Obj} {s : Shared} (h : ∀ a, g a = s.heap.get? a) : obsXG n fa fn sup mine g = (hookX n fa fn sup sv mine).obs s := by
  have e : g = s.heap.get? := funext h
  rw [e] <;> rfl
theorem saysX {fa : List He.Fa} {fn : List He.DefD} {sup : List Str} {sv : List FnC} {mine : Frag → Bool} {K : Frag} (h : obsX fa fn sup mine K = valX fn sv) : He.SaysD fa fn K ∧ mine K = true ∧ sup.map (fun x => fnC K (He.ma K (He.ga K x) "__init__")) = sv := by
  have h1 : ((He.obsD fa fn K).1 && mine K) = true := congrArg (fun z : AlX => z.1) h
  have h2 : (He.obsD fa fn K).2 = (He.valD fn).2 := congrArg (fun z : AlX => z.2.1) h
  have h3 : sup.map (fun x => fnC K (He.ma K (He.ga K x) "__init__")) = sv := congrArg (fun z : AlX => z.2.2) h
  rw [Bool.and_eq_true] at h1
  exact ⟨Prod.ext h1.1 h2, h1.2, h3⟩
end SupX

set_option Elab.async false
set_option linter.all false
set_option maxRecDepth 100000
set_option maxHeartbeats 0
namespace G3
open PySem PySem.Spec PyProof.Rows L2
abbrev RR : PySem.W.OpenRow := PySem.W.OpenLaw.row PySem.Challenge.rw_chipsproved_k25_whole_reduced_sums_of_gr
def d_beside : He.DefD := ⟨("beside", none), "beside", "beside", defArgs (top 14), defBody (top 14), defScope (top 14), [], []⟩
def d_valences : He.DefD := ⟨("valences", none), "valences", "valences", defArgs (top 15), defBody (top 15), defScope (top 15), [], []⟩
def d_sent_by : He.DefD := ⟨("sent_by", none), "sent_by", "sent_by", defArgs (top 16), defBody (top 16), defScope (top 16), [], []⟩
def d_led : He.DefD := ⟨("led", none), "led", "led", defArgs (top 17), defBody (top 17), defScope (top 17), [], []⟩
def d_laplace_rows : He.DefD := ⟨("laplace_rows", none), "laplace_rows", "laplace_rows", defArgs (top 18), defBody (top 18), defScope (top 18), [], []⟩
def d_inverse : He.DefD := ⟨("inverse", none), "inverse", "inverse", defArgs (top 19), defBody (top 19), defScope (top 19), [], []⟩
def d_undone : He.DefD := ⟨("undone", none), "undone", "undone", defArgs (top 20), defBody (top 20), defScope (top 20), [], []⟩
def d_told_sum : He.DefD := ⟨("told_sum", none), "told_sum", "told_sum", defArgs (top 25), defBody (top 25), defScope (top 25), [], []⟩
def d_is_whole_sums : He.DefD := ⟨("is_whole_sums", none), "is_whole", "is_whole", defArgs (top 23), defBody (top 23), defScope (top 23), [], []⟩
def d_is_whole_graphs : He.DefD := ⟨("is_whole_graphs", none), "is_whole", "is_whole", defArgs (top 7), defBody (top 7), defScope (top 7), [], []⟩
def d_edge_fault : He.DefD := ⟨("edge_fault", none), "edge_fault", "edge_fault", defArgs (top 9), defBody (top 9), defScope (top 9), [], []⟩
def d_together : He.DefD := ⟨("together", none), "together", "together", defArgs (top 10), defBody (top 10), defScope (top 10), [], []⟩
def d_check_place : He.DefD := ⟨("check_place", none), "check_place", "check_place", defArgs (top 12), defBody (top 12), defScope (top 12), [], []⟩
def d_is_whole_row : He.DefD := ⟨("is_whole_row", none), "is_whole_row", "is_whole_row", defArgs (top 26), defBody (top 26), defScope (top 26), [], []⟩
def d_burnt_order : He.DefD := ⟨("burnt_order", none), "burnt_order", "burnt_order", defArgs (top 28), defBody (top 28), defScope (top 28), [], []⟩
def d_unburnt : He.DefD := ⟨("unburnt", none), "unburnt", "unburnt", defArgs (top 29), defBody (top 29), defScope (top 29), [], []⟩
def d_settle : He.DefD := ⟨("settle", none), "settle", "settle", defArgs (top 30), defBody (top 30), defScope (top 30), [], []⟩
def d_cleared_up : He.DefD := ⟨("cleared_up", none), "cleared_up", "cleared_up", defArgs (top 31), defBody (top 31), defScope (top 31), [], []⟩
def d_led_down : He.DefD := ⟨("led_down", none), "led_down", "led_down", defArgs (top 32), defBody (top 32), defScope (top 32), [], []⟩
def d_burning : He.DefD := ⟨("burning", none), "burning", "burning", defArgs (top 33), defBody (top 33), defScope (top 33), [], []⟩
def d_is_low : He.DefD := ⟨("is_low", none), "is_low", "is_low", defArgs (top 34), defBody (top 34), defScope (top 34), [], []⟩
def d_is_reduced : He.DefD := ⟨("is_reduced", none), "is_reduced", "is_reduced", defArgs (top 35), defBody (top 35), defScope (top 35), [], []⟩
def d_reduced : He.DefD := ⟨("reduced", none), "reduced", "reduced", defArgs (top 36), defBody (top 36), defScope (top 36), [], []⟩
def d_is_burning_order : He.DefD := ⟨("is_burning_order", none), "is_burning_order", "is_burning_order", defArgs (top 37), defBody (top 37), defScope (top 37), [], []⟩
def d_shows_reduced : He.DefD := ⟨("shows_reduced", none), "shows_reduced", "shows_reduced", defArgs (top 38), defBody (top 38), defScope (top 38), [], []⟩
def d_law_pool : He.DefD := ⟨("_law_pool", none), "_law_pool", "_law_pool", defArgs (top 40), defBody (top 40), defScope (top 40), [], []⟩
def d_law_take : He.DefD := ⟨("_law_take", none), "_law_take", "_law_take", defArgs (top 41), defBody (top 41), defScope (top 41), [], []⟩
def d_law_pick : He.DefD := ⟨("_law_pick", none), "_law_pick", "_law_pick", defArgs (top 42), defBody (top 42), defScope (top 42), [], []⟩
def d_law_is_integer : He.DefD := ⟨("_law_is_integer", none), "_law_is_integer", "_law_is_integer", defArgs (top 43), defBody (top 43), defScope (top 43), [], []⟩
def d_law_same : He.DefD := ⟨("_law_same", none), "_law_same", "_law_same", defArgs (top 44), defBody (top 44), defScope (top 44), [], []⟩
def d_law_below : He.DefD := ⟨("_law_below", none), "_law_below", "_law_below", defArgs (top 45), defBody (top 45), defScope (top 45), [], []⟩
def d_law_order : He.DefD := ⟨("_law_order", none), "_law_order", "_law_order", defArgs (top 46), defBody (top 46), defScope (top 46), [], []⟩
def d_law_power : He.DefD := ⟨("_law_power", none), "_law_power", "_law_power", defArgs (top 47), defBody (top 47), defScope (top 47), [], []⟩
def d_law_given : He.DefD := ⟨("_law_given", none), "_law_given", "_law_given", defArgs (top 48), defBody (top 48), defScope (top 48), [], []⟩
def d_law_graph : He.DefD := ⟨("_law_graph", none), "_law_graph", "_law_graph", defArgs (top 49), defBody (top 49), defScope (top 49), [], []⟩
def d_law_all_pairs : He.DefD := ⟨("_law_all_pairs", none), "_law_all_pairs", "_law_all_pairs", defArgs (top 50), defBody (top 50), defScope (top 50), [], []⟩
def d_law_table : He.DefD := ⟨("_law_table", none), "_law_table", "_law_table", defArgs (top 51), defBody (top 51), defScope (top 51), [], []⟩
def d_law_led : He.DefD := ⟨("_law_led", none), "_law_led", "_law_led", defArgs (top 52), defBody (top 52), defScope (top 52), [], []⟩
def d_law_burnt : He.DefD := ⟨("_law_burnt", none), "_law_burnt", "_law_burnt", defArgs (top 53), defBody (top 53), defScope (top 53), [], []⟩
def d_law_is_low : He.DefD := ⟨("_law_is_low", none), "_law_is_low", "_law_is_low", defArgs (top 54), defBody (top 54), defScope (top 54), [], []⟩
def d_law_is_whole_row : He.DefD := ⟨("_law_is_whole_row", none), "_law_is_whole_row", "_law_is_whole_row", defArgs (top 55), defBody (top 55), defScope (top 55), [], []⟩
def d_law_great_chips : He.DefD := ⟨("_law_great_chips", none), "_law_great_chips", "_law_great_chips", defArgs (top 56), defBody (top 56), defScope (top 56), [], []⟩
def d_law_script : He.DefD := ⟨("_law_script", none), "_law_script", "_law_script", defArgs (top 57), defBody (top 57), defScope (top 57), [], []⟩
def d_law_is_order : He.DefD := ⟨("_law_is_order", none), "_law_is_order", "_law_is_order", defArgs (top 58), defBody (top 58), defScope (top 58), [], []⟩
def d_law_so : He.DefD := ⟨("_law_so", none), "_law_so", "_law_so", defArgs (top 59), defBody (top 59), defScope (top 59), [], []⟩
def d_law : He.DefD := ⟨("law", none), "law", "law", defArgs (top 60), defBody (top 60), defScope (top 60), [], []⟩
def d_Graph___init__ : He.DefD := ⟨("Graph", some "__init__"), "__init__", "Graph.__init__", defArgs (inClass (top 11) 0), defBody (inClass (top 11) 0), defScope (inClass (top 11) 0), [], []⟩
def fn : List He.DefD := ([d_beside, d_valences, d_sent_by, d_led, d_laplace_rows, d_inverse, d_undone, d_told_sum, d_is_whole_sums, d_is_whole_graphs, d_edge_fault, d_together, d_check_place, d_is_whole_row, d_burnt_order, d_unburnt, d_settle, d_cleared_up, d_led_down, d_burning, d_is_low, d_is_reduced, d_reduced, d_is_burning_order, d_shows_reduced] : List He.DefD) ++ ([d_law_pool, d_law_take, d_law_pick, d_law_is_integer, d_law_same, d_law_below, d_law_order, d_law_power, d_law_given, d_law_graph, d_law_all_pairs, d_law_table, d_law_led, d_law_burnt, d_law_is_low, d_law_is_whole_row, d_law_great_chips, d_law_script, d_law_is_order, d_law_so, d_law, d_Graph___init__] : List He.DefD)
def fa : List He.Fa := ([.glo "beside", .glo "valences", .glo "sent_by", .glo "led", .glo "laplace_rows", .glo "inverse", .glo "undone", .glo "told_sum", .glo "is_whole_sums", .glo "is_whole_graphs", .glo "edge_fault", .glo "together", .glo "check_place", .glo "is_whole_row", .glo "burnt_order", .glo "unburnt", .glo "settle", .glo "cleared_up", .glo "led_down", .glo "burning", .glo "is_low", .glo "is_reduced", .glo "reduced", .glo "is_burning_order", .glo "shows_reduced"] : List He.Fa) ++ ([.glo "_law_pool", .glo "_law_take", .glo "_law_pick", .glo "_law_is_integer", .glo "_law_same", .glo "_law_below", .glo "_law_order", .glo "_law_power", .glo "_law_given", .glo "_law_graph", .glo "_law_all_pairs", .glo "_law_table", .glo "_law_led", .glo "_law_burnt", .glo "_law_is_low", .glo "_law_is_whole_row", .glo "_law_great_chips", .glo "_law_script", .glo "_law_is_order", .glo "_law_so", .glo "law", .glo "Graph", .glo "BadSum", .free "len", .free "int"] : List He.Fa) ++ ([.free "list", .free "tuple", .free "range", .free "isinstance", .free "bool", .free "str", .free "all", .free "any", .free "min", .free "max", .free "sum", .free "enumerate", .free "zip", .free "sorted", .free "repr", .free "super", .free "ValueError", .int "MOST_PLACES" 64, .int "MOST_EDGES" 400, .cls "Graph", .mkr "Graph", .noat "Graph" "n", .noat "Graph" "edges", .noat "Graph" "genus", .noat "Graph" "kept"] : List He.Fa)
def loose : List Str := (["ChipError", "MOST_PLACES", "MOST_EDGES", "BadGraph", "NoPlace", "is_whole", "is_whole_graphs", "edge_fault", "together", "Graph", "check_place", "beside", "valences", "sent_by", "led", "laplace_rows", "inverse", "undone", "BadSum", "is_whole_sums", "told_sum", "is_whole_row", "burnt_order", "unburnt", "settle"] : List Str) ++ (["cleared_up", "led_down", "burning", "is_low", "is_reduced", "reduced", "is_burning_order", "shows_reduced", "_law_pool", "_law_take", "_law_pick", "_law_is_integer", "_law_same", "_law_below", "_law_order", "_law_power", "_law_given", "_law_graph", "_law_all_pairs", "_law_table", "_law_led", "_law_burnt", "_law_is_low", "_law_is_whole_row", "_law_great_chips"] : List Str) ++ (["_law_script", "_law_is_order", "_law_so"] : List Str)
def sup : List Str := ["BadSum"]
abbrev sB : Stmt := inClass (top 22) 0
def sv : List SupX.FnC := [some ((("__init__" : Str)), "BadSum.__init__", defArgs sB, FuncBody.stmts (defBody sB), defScope sB, mainGlobals, builtinsNs)]
def mine (K : PySem.W.Frag) : Bool := SupX.supB K (RR.prog.main.file : Str) "BadSum" "BadSum.__init__"
abbrev hk : PySem.W.Hook := SupX.hookX 6 fa fn sup sv mine
def ob (s : PySem.W.SharedT) : SupX.AlX := SupX.obsXG 6 fa fn sup mine (HandSHeadRun.getT s)
theorem ob_eq (s : PySem.W.SharedT) : ob s = hk.obs s.abs := SupX.obsXG_eq (HandSHeadRun.getT_eq s)
theorem run (w : World) : HandSHeadRun.RunEq RR (PySem.W.view RR.prog [60]) hk ob 20000 loose w := by
  intro os
  kernel_rfl
abbrev PP : Program := (PySem.Challenge.rw_chipsproved_k25_whole_reduced_sums_of_gr).prog
theorem formB : ∃ p1 p2 q1 q2 q3 q4 q5 q6 q7 q8 q9 q10, defArgs sB = SupX.iA p1 p2 ∧ defBody sB = SupX.iB q1 q2 q3 q4 q5 q6 q7 q8 q9 q10 ∧ defScope sB = SupX.iS ∧ (q3.endLine == q5.line) = true := ⟨_, _, _, _, _, _, _, _, _, _, _, _, rfl, rfl, rfl, rfl⟩
theorem noSuper : (PP.main.scope.names.lookup (Str.ofString "super")).isSome = false := by decide +kernel
theorem facts {w : World} {K : PySem.W.Frag} {h : Heap} {mg : Str → Option Value} (X : K.In h) (G : h.Ns mainGlobals mg) (hx : SupX.obsX fa fn sup mine K = SupX.valX fn sv) (base : Heap) : HasG PP w K mg base CX0 9 "law" p_law (spLaw K) := by
  obtain ⟨c, hm, hsv⟩ := SupX.saysX hx
  have g_beside := He.glo_ok X G (c.fact 0 (f := .glo "beside") rfl)
  have g_valences := He.glo_ok X G (c.fact 1 (f := .glo "valences") rfl)
  have g_sent_by := He.glo_ok X G (c.fact 2 (f := .glo "sent_by") rfl)
  have g_led := He.glo_ok X G (c.fact 3 (f := .glo "led") rfl)
  have g_laplace_rows := He.glo_ok X G (c.fact 4 (f := .glo "laplace_rows") rfl)
  have g_inverse := He.glo_ok X G (c.fact 5 (f := .glo "inverse") rfl)
  have g_undone := He.glo_ok X G (c.fact 6 (f := .glo "undone") rfl)
  have g_told_sum := He.glo_ok X G (c.fact 7 (f := .glo "told_sum") rfl)
  have g_is_whole_sums := He.glo_ok X G (c.fact 8 (f := .glo "is_whole_sums") rfl)
  have g_is_whole_graphs := He.glo_ok X G (c.fact 9 (f := .glo "is_whole_graphs") rfl)
  have g_edge_fault := He.glo_ok X G (c.fact 10 (f := .glo "edge_fault") rfl)
  have g_together := He.glo_ok X G (c.fact 11 (f := .glo "together") rfl)
  have g_check_place := He.glo_ok X G (c.fact 12 (f := .glo "check_place") rfl)
  have g_is_whole_row := He.glo_ok X G (c.fact 13 (f := .glo "is_whole_row") rfl)
  have g_burnt_order := He.glo_ok X G (c.fact 14 (f := .glo "burnt_order") rfl)
  have g_unburnt := He.glo_ok X G (c.fact 15 (f := .glo "unburnt") rfl)
  have g_settle := He.glo_ok X G (c.fact 16 (f := .glo "settle") rfl)
  have g_cleared_up := He.glo_ok X G (c.fact 17 (f := .glo "cleared_up") rfl)
  have g_led_down := He.glo_ok X G (c.fact 18 (f := .glo "led_down") rfl)
  have g_burning := He.glo_ok X G (c.fact 19 (f := .glo "burning") rfl)
  have g_is_low := He.glo_ok X G (c.fact 20 (f := .glo "is_low") rfl)
  have g_is_reduced := He.glo_ok X G (c.fact 21 (f := .glo "is_reduced") rfl)
  have g_reduced := He.glo_ok X G (c.fact 22 (f := .glo "reduced") rfl)
  have g_is_burning_order := He.glo_ok X G (c.fact 23 (f := .glo "is_burning_order") rfl)
  have g_shows_reduced := He.glo_ok X G (c.fact 24 (f := .glo "shows_reduced") rfl)
  have g_law_pool := He.glo_ok X G (c.fact 25 (f := .glo "_law_pool") rfl)
  have g_law_take := He.glo_ok X G (c.fact 26 (f := .glo "_law_take") rfl)
  have g_law_pick := He.glo_ok X G (c.fact 27 (f := .glo "_law_pick") rfl)
  have g_law_is_integer := He.glo_ok X G (c.fact 28 (f := .glo "_law_is_integer") rfl)
  have g_law_same := He.glo_ok X G (c.fact 29 (f := .glo "_law_same") rfl)
  have g_law_below := He.glo_ok X G (c.fact 30 (f := .glo "_law_below") rfl)
  have g_law_order := He.glo_ok X G (c.fact 31 (f := .glo "_law_order") rfl)
  have g_law_power := He.glo_ok X G (c.fact 32 (f := .glo "_law_power") rfl)
  have g_law_given := He.glo_ok X G (c.fact 33 (f := .glo "_law_given") rfl)
  have g_law_graph := He.glo_ok X G (c.fact 34 (f := .glo "_law_graph") rfl)
  have g_law_all_pairs := He.glo_ok X G (c.fact 35 (f := .glo "_law_all_pairs") rfl)
  have g_law_table := He.glo_ok X G (c.fact 36 (f := .glo "_law_table") rfl)
  have g_law_led := He.glo_ok X G (c.fact 37 (f := .glo "_law_led") rfl)
  have g_law_burnt := He.glo_ok X G (c.fact 38 (f := .glo "_law_burnt") rfl)
  have g_law_is_low := He.glo_ok X G (c.fact 39 (f := .glo "_law_is_low") rfl)
  have g_law_is_whole_row := He.glo_ok X G (c.fact 40 (f := .glo "_law_is_whole_row") rfl)
  have g_law_great_chips := He.glo_ok X G (c.fact 41 (f := .glo "_law_great_chips") rfl)
  have g_law_script := He.glo_ok X G (c.fact 42 (f := .glo "_law_script") rfl)
  have g_law_is_order := He.glo_ok X G (c.fact 43 (f := .glo "_law_is_order") rfl)
  have g_law_so := He.glo_ok X G (c.fact 44 (f := .glo "_law_so") rfl)
  have g_law := He.glo_ok X G (c.fact 45 (f := .glo "law") rfl)
  have g_Graph := He.glo_ok X G (c.fact 46 (f := .glo "Graph") rfl)
  have g_BadSum := He.glo_ok X G (c.fact 47 (f := .glo "BadSum") rfl)
  have f_len := He.free_ok X G (c.fact 48 (f := .free "len") rfl)
  have f_int := He.free_ok X G (c.fact 49 (f := .free "int") rfl)
  have f_list := He.free_ok X G (c.fact 50 (f := .free "list") rfl)
  have f_tuple := He.free_ok X G (c.fact 51 (f := .free "tuple") rfl)
  have f_range := He.free_ok X G (c.fact 52 (f := .free "range") rfl)
  have f_isinstance := He.free_ok X G (c.fact 53 (f := .free "isinstance") rfl)
  have f_bool := He.free_ok X G (c.fact 54 (f := .free "bool") rfl)
  have f_str := He.free_ok X G (c.fact 55 (f := .free "str") rfl)
  have f_all := He.free_ok X G (c.fact 56 (f := .free "all") rfl)
  have f_any := He.free_ok X G (c.fact 57 (f := .free "any") rfl)
  have f_min := He.free_ok X G (c.fact 58 (f := .free "min") rfl)
  have f_max := He.free_ok X G (c.fact 59 (f := .free "max") rfl)
  have f_sum := He.free_ok X G (c.fact 60 (f := .free "sum") rfl)
  have f_enumerate := He.free_ok X G (c.fact 61 (f := .free "enumerate") rfl)
  have f_zip := He.free_ok X G (c.fact 62 (f := .free "zip") rfl)
  have f_sorted := He.free_ok X G (c.fact 63 (f := .free "sorted") rfl)
  have f_repr := He.free_ok X G (c.fact 64 (f := .free "repr") rfl)
  have f_super := He.free_ok X G (c.fact 65 (f := .free "super") rfl)
  have f_ValueError := He.free_ok X G (c.fact 66 (f := .free "ValueError") rfl)
  have i_MOST_PLACES := He.int_ok X G (c.fact 67 (f := .int "MOST_PLACES" 64) rfl)
  have i_MOST_EDGES := He.int_ok X G (c.fact 68 (f := .int "MOST_EDGES" 400) rfl)
  have c_Graph := He.cls_ok (c.fact 69 (f := .cls "Graph") rfl)
  have k_Graph := He.mkr_ok (c.fact 70 (f := .mkr "Graph") rfl)
  have n_Graph_n := He.noat_ok (c.fact 71 (f := .noat "Graph" "n") rfl)
  have n_Graph_edges := He.noat_ok (c.fact 72 (f := .noat "Graph" "edges") rfl)
  have n_Graph_genus := He.noat_ok (c.fact 73 (f := .noat "Graph" "genus") rfl)
  have n_Graph_kept := He.noat_ok (c.fact 74 (f := .noat "Graph" "kept") rfl)
  have D_beside : DefAt K mg "beside" "beside" (top 14) := by
    obtain ⟨fd, F⟩ := c.def_ 0 (d := d_beside) rfl
    exact ⟨_, fd, He5.fun_of F, g_beside⟩
  have D_valences : DefAt K mg "valences" "valences" (top 15) := by
    obtain ⟨fd, F⟩ := c.def_ 1 (d := d_valences) rfl
    exact ⟨_, fd, He5.fun_of F, g_valences⟩
  have D_sent_by : DefAt K mg "sent_by" "sent_by" (top 16) := by
    obtain ⟨fd, F⟩ := c.def_ 2 (d := d_sent_by) rfl
    exact ⟨_, fd, He5.fun_of F, g_sent_by⟩
  have D_led : DefAt K mg "led" "led" (top 17) := by
    obtain ⟨fd, F⟩ := c.def_ 3 (d := d_led) rfl
    exact ⟨_, fd, He5.fun_of F, g_led⟩
  have D_laplace_rows : DefAt K mg "laplace_rows" "laplace_rows" (top 18) := by
    obtain ⟨fd, F⟩ := c.def_ 4 (d := d_laplace_rows) rfl
    exact ⟨_, fd, He5.fun_of F, g_laplace_rows⟩
  have D_inverse : DefAt K mg "inverse" "inverse" (top 19) := by
    obtain ⟨fd, F⟩ := c.def_ 5 (d := d_inverse) rfl
    exact ⟨_, fd, He5.fun_of F, g_inverse⟩
  have D_undone : DefAt K mg "undone" "undone" (top 20) := by
    obtain ⟨fd, F⟩ := c.def_ 6 (d := d_undone) rfl
    exact ⟨_, fd, He5.fun_of F, g_undone⟩
  have D_told_sum : DefAt K mg "told_sum" "told_sum" (top 25) := by
    obtain ⟨fd, F⟩ := c.def_ 7 (d := d_told_sum) rfl
    exact ⟨_, fd, He5.fun_of F, g_told_sum⟩
  have D_is_whole_sums : DefAt K mg "is_whole_sums" "is_whole" (top 23) := by
    obtain ⟨fd, F⟩ := c.def_ 8 (d := d_is_whole_sums) rfl
    exact ⟨_, fd, He5.fun_of F, g_is_whole_sums⟩
  have D_is_whole_graphs : DefAt K mg "is_whole_graphs" "is_whole" (top 7) := by
    obtain ⟨fd, F⟩ := c.def_ 9 (d := d_is_whole_graphs) rfl
    exact ⟨_, fd, He5.fun_of F, g_is_whole_graphs⟩
  have D_edge_fault : DefAt K mg "edge_fault" "edge_fault" (top 9) := by
    obtain ⟨fd, F⟩ := c.def_ 10 (d := d_edge_fault) rfl
    exact ⟨_, fd, He5.fun_of F, g_edge_fault⟩
  have D_together : DefAt K mg "together" "together" (top 10) := by
    obtain ⟨fd, F⟩ := c.def_ 11 (d := d_together) rfl
    exact ⟨_, fd, He5.fun_of F, g_together⟩
  have D_check_place : DefAt K mg "check_place" "check_place" (top 12) := by
    obtain ⟨fd, F⟩ := c.def_ 12 (d := d_check_place) rfl
    exact ⟨_, fd, He5.fun_of F, g_check_place⟩
  have D_is_whole_row : DefAt K mg "is_whole_row" "is_whole_row" (top 26) := by
    obtain ⟨fd, F⟩ := c.def_ 13 (d := d_is_whole_row) rfl
    exact ⟨_, fd, He5.fun_of F, g_is_whole_row⟩
  have D_burnt_order : DefAt K mg "burnt_order" "burnt_order" (top 28) := by
    obtain ⟨fd, F⟩ := c.def_ 14 (d := d_burnt_order) rfl
    exact ⟨_, fd, He5.fun_of F, g_burnt_order⟩
  have D_unburnt : DefAt K mg "unburnt" "unburnt" (top 29) := by
    obtain ⟨fd, F⟩ := c.def_ 15 (d := d_unburnt) rfl
    exact ⟨_, fd, He5.fun_of F, g_unburnt⟩
  have D_settle : DefAt K mg "settle" "settle" (top 30) := by
    obtain ⟨fd, F⟩ := c.def_ 16 (d := d_settle) rfl
    exact ⟨_, fd, He5.fun_of F, g_settle⟩
  have D_cleared_up : DefAt K mg "cleared_up" "cleared_up" (top 31) := by
    obtain ⟨fd, F⟩ := c.def_ 17 (d := d_cleared_up) rfl
    exact ⟨_, fd, He5.fun_of F, g_cleared_up⟩
  have D_led_down : DefAt K mg "led_down" "led_down" (top 32) := by
    obtain ⟨fd, F⟩ := c.def_ 18 (d := d_led_down) rfl
    exact ⟨_, fd, He5.fun_of F, g_led_down⟩
  have D_burning : DefAt K mg "burning" "burning" (top 33) := by
    obtain ⟨fd, F⟩ := c.def_ 19 (d := d_burning) rfl
    exact ⟨_, fd, He5.fun_of F, g_burning⟩
  have D_is_low : DefAt K mg "is_low" "is_low" (top 34) := by
    obtain ⟨fd, F⟩ := c.def_ 20 (d := d_is_low) rfl
    exact ⟨_, fd, He5.fun_of F, g_is_low⟩
  have D_is_reduced : DefAt K mg "is_reduced" "is_reduced" (top 35) := by
    obtain ⟨fd, F⟩ := c.def_ 21 (d := d_is_reduced) rfl
    exact ⟨_, fd, He5.fun_of F, g_is_reduced⟩
  have D_reduced : DefAt K mg "reduced" "reduced" (top 36) := by
    obtain ⟨fd, F⟩ := c.def_ 22 (d := d_reduced) rfl
    exact ⟨_, fd, He5.fun_of F, g_reduced⟩
  have D_is_burning_order : DefAt K mg "is_burning_order" "is_burning_order" (top 37) := by
    obtain ⟨fd, F⟩ := c.def_ 23 (d := d_is_burning_order) rfl
    exact ⟨_, fd, He5.fun_of F, g_is_burning_order⟩
  have D_shows_reduced : DefAt K mg "shows_reduced" "shows_reduced" (top 38) := by
    obtain ⟨fd, F⟩ := c.def_ 24 (d := d_shows_reduced) rfl
    exact ⟨_, fd, He5.fun_of F, g_shows_reduced⟩
  have D_law_pool : DefAt K mg "_law_pool" "_law_pool" (top 40) := by
    obtain ⟨fd, F⟩ := c.def_ 25 (d := d_law_pool) rfl
    exact ⟨_, fd, He5.fun_of F, g_law_pool⟩
  have D_law_take : DefAt K mg "_law_take" "_law_take" (top 41) := by
    obtain ⟨fd, F⟩ := c.def_ 26 (d := d_law_take) rfl
    exact ⟨_, fd, He5.fun_of F, g_law_take⟩
  have D_law_pick : DefAt K mg "_law_pick" "_law_pick" (top 42) := by
    obtain ⟨fd, F⟩ := c.def_ 27 (d := d_law_pick) rfl
    exact ⟨_, fd, He5.fun_of F, g_law_pick⟩
  have D_law_is_integer : DefAt K mg "_law_is_integer" "_law_is_integer" (top 43) := by
    obtain ⟨fd, F⟩ := c.def_ 28 (d := d_law_is_integer) rfl
    exact ⟨_, fd, He5.fun_of F, g_law_is_integer⟩
  have D_law_same : DefAt K mg "_law_same" "_law_same" (top 44) := by
    obtain ⟨fd, F⟩ := c.def_ 29 (d := d_law_same) rfl
    exact ⟨_, fd, He5.fun_of F, g_law_same⟩
  have D_law_below : DefAt K mg "_law_below" "_law_below" (top 45) := by
    obtain ⟨fd, F⟩ := c.def_ 30 (d := d_law_below) rfl
    exact ⟨_, fd, He5.fun_of F, g_law_below⟩
  have D_law_order : DefAt K mg "_law_order" "_law_order" (top 46) := by
    obtain ⟨fd, F⟩ := c.def_ 31 (d := d_law_order) rfl
    exact ⟨_, fd, He5.fun_of F, g_law_order⟩
  have D_law_power : DefAt K mg "_law_power" "_law_power" (top 47) := by
    obtain ⟨fd, F⟩ := c.def_ 32 (d := d_law_power) rfl
    exact ⟨_, fd, He5.fun_of F, g_law_power⟩
  have D_law_given : DefAt K mg "_law_given" "_law_given" (top 48) := by
    obtain ⟨fd, F⟩ := c.def_ 33 (d := d_law_given) rfl
    exact ⟨_, fd, He5.fun_of F, g_law_given⟩
  have D_law_graph : DefAt K mg "_law_graph" "_law_graph" (top 49) := by
    obtain ⟨fd, F⟩ := c.def_ 34 (d := d_law_graph) rfl
    exact ⟨_, fd, He5.fun_of F, g_law_graph⟩
  have D_law_all_pairs : DefAt K mg "_law_all_pairs" "_law_all_pairs" (top 50) := by
    obtain ⟨fd, F⟩ := c.def_ 35 (d := d_law_all_pairs) rfl
    exact ⟨_, fd, He5.fun_of F, g_law_all_pairs⟩
  have D_law_table : DefAt K mg "_law_table" "_law_table" (top 51) := by
    obtain ⟨fd, F⟩ := c.def_ 36 (d := d_law_table) rfl
    exact ⟨_, fd, He5.fun_of F, g_law_table⟩
  have D_law_led : DefAt K mg "_law_led" "_law_led" (top 52) := by
    obtain ⟨fd, F⟩ := c.def_ 37 (d := d_law_led) rfl
    exact ⟨_, fd, He5.fun_of F, g_law_led⟩
  have D_law_burnt : DefAt K mg "_law_burnt" "_law_burnt" (top 53) := by
    obtain ⟨fd, F⟩ := c.def_ 38 (d := d_law_burnt) rfl
    exact ⟨_, fd, He5.fun_of F, g_law_burnt⟩
  have D_law_is_low : DefAt K mg "_law_is_low" "_law_is_low" (top 54) := by
    obtain ⟨fd, F⟩ := c.def_ 39 (d := d_law_is_low) rfl
    exact ⟨_, fd, He5.fun_of F, g_law_is_low⟩
  have D_law_is_whole_row : DefAt K mg "_law_is_whole_row" "_law_is_whole_row" (top 55) := by
    obtain ⟨fd, F⟩ := c.def_ 40 (d := d_law_is_whole_row) rfl
    exact ⟨_, fd, He5.fun_of F, g_law_is_whole_row⟩
  have D_law_great_chips : DefAt K mg "_law_great_chips" "_law_great_chips" (top 56) := by
    obtain ⟨fd, F⟩ := c.def_ 41 (d := d_law_great_chips) rfl
    exact ⟨_, fd, He5.fun_of F, g_law_great_chips⟩
  have D_law_script : DefAt K mg "_law_script" "_law_script" (top 57) := by
    obtain ⟨fd, F⟩ := c.def_ 42 (d := d_law_script) rfl
    exact ⟨_, fd, He5.fun_of F, g_law_script⟩
  have D_law_is_order : DefAt K mg "_law_is_order" "_law_is_order" (top 58) := by
    obtain ⟨fd, F⟩ := c.def_ 43 (d := d_law_is_order) rfl
    exact ⟨_, fd, He5.fun_of F, g_law_is_order⟩
  have D_law_so : DefAt K mg "_law_so" "_law_so" (top 59) := by
    obtain ⟨fd, F⟩ := c.def_ 44 (d := d_law_so) rfl
    exact ⟨_, fd, He5.fun_of F, g_law_so⟩
  have D_law : DefAt K mg "law" "law" (top 60) := by
    obtain ⟨fd, F⟩ := c.def_ 45 (d := d_law) rfl
    exact ⟨_, fd, He5.fun_of F, g_law⟩
  have D_Graph___init__ : MkAt K mg "Graph" (He.ga K "Graph") "__init__" "Graph.__init__" (inClass (top 11) 0) := by
    obtain ⟨fd, F⟩ := c.def_ 46 (d := d_Graph___init__) rfl
    exact ⟨_, fd, He5.fun_of F, k_Graph, g_Graph⟩
  unfold mine at hm
  have e0 : SupX.fnC K (He.ma K (He.ga K "BadSum") "__init__") = some ((("__init__" : Str)), ("BadSum.__init__" : Str), defArgs sB, FuncBody.stmts (defBody sB), defScope sB, mainGlobals, builtinsNs) := Option.some.inj (congrArg (fun l : List SupX.FnC => l[0]?) hsv)
  obtain ⟨p1, p2, q1, q2, q3, q4, q5, q6, q7, q8, q9, q10, a1, a2, a3, a4⟩ := formB
  rw [a1, a2, a3] at e0
  have TB : SupX.SupTxt PP K mg "BadSum" _ _ := SupX.sup_ok g_BadSum f_super noSuper e0 a4 hm
  have B : Bt mg := ⟨f_len, f_int, f_list, f_tuple, f_range, f_isinstance, f_bool, f_str, f_all, f_any, f_min, f_max, f_sum, f_enumerate, f_zip, f_sorted, f_repr⟩
  have GC : GraphC K (He.ga K "Graph") := ⟨c_Graph, n_Graph_n, n_Graph_edges, n_Graph_genus, n_Graph_kept⟩
  have h_take := ok_take (P := PP) (w := w) (base := base) D_law_take B
  have h_pick := ok_pick D_law_pick B h_take
  have h_isi := ok_is_integer (P := PP) (w := w) (base := base) D_law_is_integer B
  have h_same := ok_same D_law_same B h_isi 3
  have h_order := ok_order D_law_order B h_take
  have h_given := ok_given D_law_given B h_take
  have h_pairs := ok_all_pairs (P := PP) (w := w) (base := base) (K := K) D_law_all_pairs B
  have h_graph := ok_graph D_law_graph B h_take h_pick h_order h_pairs
  have h_wg := ok_is_whole_g (P := PP) (w := w) (base := base) D_is_whole_graphs B
  have h_ws := ok_is_whole (P := PP) (w := w) (base := base) D_is_whole_sums B
  have h_ef := ok_edge_fault D_edge_fault B h_wg
  have h_tg := ok_together (P := PP) (w := w) (base := base) D_together B
  have mk_G := ok_Graph D_Graph___init__ B GC h_wg h_ef h_tg i_MOST_PLACES i_MOST_EDGES
  have h_beside := ok_beside (P := PP) (w := w) (base := base) memo2_b D_beside B GC
  have h_val := ok_valences D_valences B h_beside
  have h_sent := ok_sent_byR D_sent_by B h_beside
  have h_led := ledG (ok_ledR D_led B h_sent)
  have h_ledf := ledG_F h_led
  have h_rows := ok_laplace_rows D_laplace_rows B GC h_beside
  have h_inv := ok_inverse memo2_i D_inverse B GC h_rows
  have h_und := ok_undone D_undone B h_inv
  have h_ts := tellF (ok_told_sum (m := memo2) (w := w) (base := base) D_told_sum B GC TB h_ws)
  have h_chk := ok_check_place (m := memo2) (C := He.ga K "Graph") D_check_place B GC h_wg
  have h_wr := ok_is_whole_row D_is_whole_row B h_ws
  have h_bo := ok_burnt_order D_burnt_order B GC h_beside
  have h_unb := ok_unburnt D_unburnt B GC h_beside
  have h_set := ok_settle D_settle B GC h_unb h_beside
  have h_clr := ok_cleared_up D_cleared_up B h_und h_ledf (valF h_val)
  have h_low := ok_led_down D_led_down B h_clr h_set
  have h_burn := ok_burning D_burning B GC h_ts h_chk h_bo
  have h_isl := ok_is_low D_is_low B h_unb
  have h_isr := ok_is_reduced D_is_reduced B h_ts h_chk h_isl
  have h_red := ok_reduced D_reduced B h_ts h_chk h_low
  have h_ibo := ok_is_burning_order D_is_burning_order B GC h_wr h_beside
  have h_shw := ok_shows_reduced D_shows_reduced B GC h_ts h_chk h_wr h_led h_ibo
  have h_pool := ok_pool (P := PP) (w := w) (base := base) (K := K) D_law_pool B
  have h_below := ok_below D_law_below B h_take
  have h_power := ok_power (P := PP) (w := w) (base := base) (K := K) D_law_power B
  have h_great := ok_great D_law_great_chips B h_take h_pick h_below h_power
  have h_table := ok_table (P := PP) (w := w) (base := base) (K := K) D_law_table B
  have h_ledT := ledW (ok_ledT (P := PP) (w := w) (base := base) (K := K) D_law_led B)
  have h_lb := ok_law_burnt (P := PP) (w := w) (base := base) (K := K) D_law_burnt B
  have h_lil := ok_law_is_low D_law_is_low B h_lb
  have h_lwr := ok_law_is_whole_row D_law_is_whole_row B h_isi
  have h_scr := ok_law_script D_law_script B h_take h_pick h_below
  have h_lio := ok_law_is_order D_law_is_order B h_lwr
  have h_so := ok_so D_law_so B mk_G h_table h_great h_given h_ledT h_same h_take h_pick h_red h_lwr h_lil h_scr h_burn h_lio h_isr h_shw
  exact ok_law D_law B h_pool h_pick h_take h_graph h_so
end G3
open PySem PySem.W PySem.Calls PyProof.Rows
theorem PySem.Challenge.cw_chipsproved_k25_whole_reduced_sums_of_gr_holds : PySem.Challenge.rw_chipsproved_k25_whole_reduced_sums_of_gr.Holds := by
  w_on; o_law
  refine HandSHeadRun.head_any (r := OpenLaw.row PySem.Challenge.rw_chipsproved_k25_whole_reduced_sums_of_gr) (q := view (OpenLaw.row PySem.Challenge.rw_chipsproved_k25_whole_reduced_sums_of_gr).prog [60]) (H := G3.hk) (ob := G3.ob) (M := 20000) (loose := G3.loose) (d := HandSHeadRun.topDef (OpenLaw.row PySem.Challenge.rw_chipsproved_k25_whole_reduced_sums_of_gr).prog 60) (kwd := []) G3.ob_eq
    (by kernel_rfl) (fun s => by kernel_rfl) G3.run (by kernel_rfl) (by kernel_rfl) (by kernel_rfl) (by rfl) (by first | assumption | decide +kernel) (by decide +kernel) ⟨rfl, rfl, rfl, rfl, rfl, by decide +kernel⟩ ?hw ?hc
  case hw => w_witness2
  case hc =>
    refine L2.walk_ofG (l := PySem.Challenge.rw_chipsproved_k25_whole_reduced_sums_of_gr) (n := 63) (k := 9) (x := "script") (CX := L2.CX0) rfl (by decide) (by kernel_rfl) ⟨rfl, by decide, by decide⟩ ?F (fun _ _ _ _ z => z)
    intro w mg fa h Y G hmg0
    obtain ⟨K, KX, c⟩ := Y
    have hmg : mg ("law" : PySem.Str) = some (.ref fa) := by
      have e : (HandSHeadRun.topDef (OpenLaw.row PySem.Challenge.rw_chipsproved_k25_whole_reduced_sums_of_gr).prog 60).name = ("law" : PySem.Str) := by kernel_rfl
      rw [← e]
      exact hmg0
    refine ⟨K, G3.spLaw K, KX, fun H a ns hl _ hS => ⟨a, ns, rfl, hS, Nat.le_trans hl (by decide), fun _ => rfl⟩, fun base _ _ => ?_⟩
    obtain ⟨f, fd, F, hm, _, hb⟩ := G3.facts (w := w) KX G c base
    rw [hmg] at hm
    cases hm
    exact ⟨fd, F, hb⟩

