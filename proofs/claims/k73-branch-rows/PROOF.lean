import PyProof.Rows.All
import Wide.All
import OpenK.AllK
import Wide.FinOn
import KE.KStateDown
import HandS.ForMost
import HandS.More
import HandS.WordsExc
import HandS.Defaults
import HandS.Conv
import HandS.TupAny
import HandS.Wide
import HandS.IsInst
import HandS.Zip
import HandS.Evl
import HandS.Steps
import PySem.Challenge.RW_chipsproved_k73_whole_branch_rows
import KE.KExcSuper
import HandS.Exc
import HandS.TryMany
import HandS.ExcField
import HandS.ExcIs
import HandS.CallSlots
import HandS.HeadWalk
import KE.GoesMore
import KE.GoesEnum
import HandS.Walk
import HandS.DictTup
import HandS.SortRule
import HandS.Strs
import KE.DataMinMax
import KE.SortData
import KE.DataFind
import HandS.OwnEq
import HandS.Ends
import HandS.HeadEnd
import HandS.FStrTup
import HandS.Head0
import HandS.Head1
import HandS.Head2
import HandS.HeadHook1
import HandS.HeadHook2
import HandS.HeadNt
import HandS.ExcInit
import HandS.SortInts
import HandS.SetFor
import HandS.Codes
import PyProof.InstNe
import KE.KIsAll
set_option Elab.async false
set_option linter.all false
set_option maxRecDepth 100000
set_option maxHeartbeats 1000000
namespace G3
open PySem PySem.Spec PyProof.Rows L2

/-! ## a def where it stands, and what it promises -/
def DefAt (K : PySem.W.Frag) (mg : Str → Option Value) (x nm : Str) (st : Stmt) : Prop := ∃ f fd, Fun K nm nm st f fd ∧ mg x = some (.ref f)
def Has (P : Program) (w : World) (K : PySem.W.Frag) (mg : Str → Option Value) (base : Heap) (CX : CXT) (k : Nat) (x : Str) (ps : List Str) (sp : Sp) : Prop :=
  ∃ f fd, FnOk P w K mg base CX k f fd ps sp ∧ mg x = some (.ref f) ∧ PySem.W.keepIn K (.ref f) = true ∧ Binds K fd ps []
section
variable {P : Program} {w : World} {K : PySem.W.Frag} {mg : Str → Option Value} {base : Heap} {CX : CXT} {k : Nat} {x : Str} {ps : List Str} {sp : Sp}
theorem Has.imp {sp' : Sp} (h : Has P w K mg base CX k x ps sp) (hs : ∀ vs H Q E, sp' vs H Q E → sp vs H Q E) : Has P w K mg base CX k x ps sp' := by
  obtain ⟨f, fd, F, r⟩ := h
  exact ⟨f, fd, F.imp hs, r⟩
theorem Has.mono {j : Nat} (h : Has P w K mg base CX j x ps sp) (hj : j ≤ k) : Has P w K mg base CX k x ps sp := by
  obtain ⟨f, fd, F, r⟩ := h
  exact ⟨f, fd, F.mono hj, r⟩
theorem has_of {nm : Str} {st : Stmt} {N : List Str} (D : DefAt K mg x nm st) (S : FnScope N ps (defScope st)) 
    (hb : ∀ (kV doc pm : Value) (an : Option Addr) (cdv ct : Value) (us : List Value), us.length = ps.length → bindArgs (PySem.W.fnOf nm nm (defArgs st) (defBody st) (defScope st) .none kV doc pm an cdv ct) ⟨us, []⟩ = pure (ps.zip us))
    (len : ∀ vs H Q E, sp vs H Q E → vs.length = ps.length)
    (hbody : ∀ (f : Addr) (cdv : Value) (A : Around) (outer : List Env) (s : Shared) (H : Hp) (vs : List V) (Q : VK) (E : XK), Room k (A.deeper (envOfC nm (defScope st) s.heap.objs.size f cdv)) → sp vs H Q E →
      ∃ t, PSs (cxOf CX0 P w K mg base N nm (defScope st) f cdv A outer s H E).nox (defBody st) t ∧ t { nx := fun _ H' => Q .non H', rt := Q } (start N vs) H) : Has P w K mg base CX0 (k + 1) x ps sp := by
  obtain ⟨f, fd, F, m⟩ := D
  exact ⟨f, fd, F.ok S len (fun cdv A outer s H vs Q E hr hs => hbody f cdv A outer s H vs Q E hr hs), m, F.kp, F.binds hb⟩
end
theorem pe_h {X : Cx} {CX : CXT} {k j : Nat} {x : Str} {ps : List Str} {sp : Sp} {E : XK} {p pos : Pos} {e : Expr} {es : List Expr} {t : TA} (h : Has X.prog X.w X.K X.mg X.base CX k x ps sp) (hr : Room j X.A) (hx : Passes CX X E)
    (ha : PA X (e :: es) t) (hk : k ≤ j := by first | decide | omega) (hg : Gl X x := by rfl) (hdb : (x == ("__debug__" : Str)) = false := by decide) (he : starEach (e :: es) X.env = (false, eval e X.env) :: starEach es X.env := by rfl) (hpl : (backTo pos (starEach es X.env)).any (·.1) = false := by rfl) :
    PE X (.Call (.Name x p) (e :: es) [] pos) (tCall sp [] E t) := by
  obtain ⟨f, fd, F, m, kp, b⟩ := h
  exact pe_call F (hr.mono hk) hg m kp b .nil hx ha hdb he hpl
/-- a written global number -/
theorem pe_gint {X : Cx} {x : Str} {i : Int} {pos : Pos} (h : ∃ t, X.mg x = some (.int i t)) (hg : Gl X x := by rfl) (hd : (x == ("__debug__" : Str)) = false := by decide) : PE X (.Name x pos) (tC (.int i)) := by
  obtain ⟨t, h⟩ := h
  exact pe_glob hg h ⟨t, rfl⟩ hd

/-! ## tests -/
theorem ifD {p A B : Prop} [Decidable p] (h1 : p → A) (h2 : ¬ p → B) : if decide p = true then A else B := by
  by_cases h : p
  · rw [if_pos (decide_eq_true h)]; exact h1 h
  · rw [if_neg (by simp [h])]; exact h2 h
theorem ifN {p A B : Prop} [Decidable p] (h1 : ¬ p → A) (h2 : p → B) : if (!decide p) = true then A else B := by
  by_cases h : p
  · rw [if_neg (by simp [h])]; exact h2 h
  · rw [if_pos (by simp [h])]; exact h1 h
theorem ifB {b : Bool} {A B : Prop} (h1 : b = true → A) (h2 : b = false → B) : if b = true then A else B := by
  cases b
  · rw [if_neg (by decide)]; exact h2 rfl
  · rw [if_pos rfl]; exact h1 rfl
theorem bl_t {p : Prop} [Decidable p] {Q : VK} {H : Hp} (h : p) (q : Q (.bl true) H) : Q (.bl (decide p)) H := by rw [decide_eq_true h]; exact q

theorem atI_int {α : Type} {xs : List α} {i : Int} {v : α} (h0 : 0 ≤ i) (h : xs[i.toNat]? = some v) : atI xs i = some v := by
  obtain ⟨n, rfl⟩ : ∃ n : Nat, i = n := ⟨i.toNat, by omega⟩
  exact atI_nat (by simpa using h)
theorem getMap {α : Type} {xs : List α} {f : α → V} {i : Nat} (h : i < xs.length) : (xs.map f)[i]? = some (f xs[i]) := by
  rw [List.getElem?_map, List.getElem?_eq_getElem h]; rfl

theorem st_ite {c : TT} {t1 t2 : TS} {D : Ends} {σ : L2.St} {H : Hp} {b : Bool} (h : Ans c σ H b) (h1 : b = true → t1 D σ H) (h2 : b = false → t2 D σ H) : tIfS c t1 t2 D σ H := by
  cases b
  · exact st_no h (h2 rfl)
  · exact st_yes h (h1 rfl)
theorem yes_ {σ : L2.St} {H : Hp} {A B : Hp → Prop} (h : A H) : tYes σ H (fun b H3 => if b = true then A H3 else B H3) := iteT (A := A H) (B := B H) h

/-! ## heaps -/
theorem same_upd {H : Hp} {p : Addr} {o : HO} (h : H p = none) : Same H (upd H p o) := fun b x e => by
  rw [upd_ne (ne_of_none e h)]; exact e
theorem Same.seqT {K : PySem.W.Frag} {H H' : Hp} {a : Addr} {xs : List V} (e : Same H H') (h : SqT K H a xs) : SqT K H' a xs := by
  rcases h with (h | ⟨o, h⟩) | h
  · exact .inl (.inl (e _ _ h))
  · exact .inl (.inr ⟨o, e _ _ h⟩)
  · exact .inr h

/-! ## the pool of a law: a list that only _law_take reads and writes -/
def PoolO (a c : Addr) : HO := .ext fun h => ∃ (i d s : Int) (t1 t2 t3 : Tok) (n : Nat), 0 ≤ i ∧ 0 ≤ d ∧ 0 ≤ s ∧ s < 2147483647 ∧
  h.get? a = some ({ cls := .type "list", data := .seq #[.ref c, .int i t1, .int d t2, .int s t3] n } : Obj)
def poolL (c : Addr) (i d s : Int) : List V := [.ref c, .int i, .int d, .int s]
def PoolAt (H : Hp) (a : Addr) : Prop := ∃ (c : Addr) (ns : List Int), H a = some (PoolO a c) ∧ H c = some (.lst (ns.map V.int)) ∧ ∀ n ∈ ns, (0 : Int) ≤ n
theorem PoolAt.same {H H' : Hp} {a : Addr} (h : PoolAt H a) (e : Same H H') : PoolAt H' a := by
  obtain ⟨c, ns, h1, h2, h3⟩ := h
  exact ⟨c, ns, e _ _ h1, e _ _ h2, h3⟩
theorem ext_own {φ : Heap → Prop} {x : Addr} : HO.ext φ ≠ .own x := fun z => by cases z
theorem ext_tup {φ : Heap → Prop} {xs : List V} : HO.ext φ ≠ .tup xs := fun z => by cases z
theorem lst_own {ys : List V} {x : Addr} : HO.lst ys ≠ .own x := fun z => by cases z
theorem lst_tup {ys xs : List V} : HO.lst ys ≠ .tup xs := fun z => by cases z
/-- what is tracked at a is told otherwise: a list by its ext, or back -/
theorem hok_ghost {P : Program} {w : World} {H : Hp} {h : Heap} {a : Addr} {o o' : HO} (ok : HOk P w H h) (e : H a = some o) (n1 : ∀ x, o ≠ .own x) (n2 : ∀ xs, o ≠ .tup xs) (new : ObjOk P w (upd H a o') h a o') : HOk P w (upd H a o') h := fun b u q => by
  by_cases hb : b = a
  · subst hb; rw [upd_same] at q; cases q; exact new
  · rw [upd_ne hb] at q
    refine (ok b u q).stay (fun _ _ _ z => z) (fun c z => ?_) (fun c xs z => ?_)
    · rw [upd_ne]; exact z
      intro y; subst y; rw [e] at z; exact n1 _ (Option.some.inj z)
    · rw [upd_ne]; exact z
      intro y; subst y; rw [e] at z; exact n2 _ (Option.some.inj z)
theorem pool_open {P : Program} {w : World} {H : Hp} {h : Heap} {a c : Addr} (ok : HOk P w H h) (e : H a = some (PoolO a c)) :
    ∃ i d s : Int, 0 ≤ i ∧ 0 ≤ d ∧ 0 ≤ s ∧ s < 2147483647 ∧ HOk P w (upd H a (.lst (poolL c i d s))) h := by
  obtain ⟨⟨i, d, s, t1, t2, t3, n, h1, h2, h3, h4, ho⟩, _, _⟩ := ok a _ e
  refine ⟨i, d, s, h1, h2, h3, h4, hok_ghost ok e (fun x => ext_own) (fun xs => ext_tup) ⟨by show 4 ≤ sizeLine; decide, [.ref c, .int i t1, .int d t2, .int s t3], n, ?_, ho⟩⟩
  exact .cons rfl (.cons ⟨_, rfl⟩ (.cons ⟨_, rfl⟩ (.cons ⟨_, rfl⟩ .nil)))
theorem pool_close {P : Program} {w : World} {H : Hp} {h : Heap} {a c : Addr} {i d s : Int} (ok : HOk P w H h) (e : H a = some (.lst (poolL c i d s))) (h1 : 0 ≤ i) (h2 : 0 ≤ d) (h3 : 0 ≤ s) (h4 : s < 2147483647) :
    HOk P w (upd H a (PoolO a c)) h := by
  obtain ⟨_, its, n, r, ho⟩ := ok a _ e
  refine hok_ghost ok e (fun x => lst_own) (fun xs => lst_tup) ?_
  cases r with
  | cons r0 r => cases r with
    | cons r1 r => cases r with
      | cons r2 r => cases r with
        | cons r3 r => cases r with
          | nil =>
            obtain rfl := r0
            obtain ⟨t1, rfl⟩ := r1
            obtain ⟨t2, rfl⟩ := r2
            obtain ⟨t3, rfl⟩ := r3
            have ho' : h.get? a = some ({ cls := .type "list", data := .seq #[.ref c, .int i t1, .int d t2, .int s t3] n } : Obj) := ho
            exact ⟨⟨i, d, s, t1, t2, t3, n, h1, h2, h3, h4, ho'⟩, ⟨_, ho'⟩, fun g1 g2 ⟨i', d', s', t1', t2', t3', n', a1, a2, a3, a4, q⟩ k => ⟨i', d', s', t1', t2', t3', n', a1, a2, a3, a4, k _ q⟩⟩
/-- another word for the heap ahead of a call and behind it -/
def Gst (H H1 : Hp) : Prop := (∀ b, H b = none → H1 b = none) ∧ (∀ b xs, H b = some (.tup xs) → H1 b = some (.tup xs)) ∧ (∀ b o u, H b = some (.frz o u) → H1 b = some (.frz o u)) ∧ (∀ b ps, H b = some (.tbl ps) → H1 b = some (.tbl ps))
theorem Gst.upd {H : Hp} {a : Addr} {o o' : HO} (e : H a = some o) (n1 : ∀ xs, o ≠ .tup xs) (n2 : ∀ ob u, o ≠ .frz ob u) (n3 : ∀ ps, o ≠ .tbl ps) : Gst H (L2.upd H a o') := by
  refine ⟨fun b n => ?_, fun b xs q => ?_, fun b ob u q => ?_, fun b ps q => ?_⟩
  · rw [upd_ne]; exact n
    intro z; subst z; rw [e] at n; cases n
  · rw [upd_ne]; exact q
    intro z; subst z; rw [e] at q; exact n1 _ (Option.some.inj q)
  · rw [upd_ne]; exact q
    intro z; subst z; rw [e] at q; exact n2 _ _ (Option.some.inj q)
  · rw [upd_ne]; exact q
    intro z; subst z; rw [e] at q; exact n3 _ (Option.some.inj q)
theorem ghost_call {P : Program} {w : World} {K : PySem.W.Frag} {mg : Str → Option Value} {base : Heap} {k : Nat} {f : Addr} {fd : FuncData} {ps : List Str} {sp sp' : Sp} (F : FnOk P w K mg base CX0 k f fd ps sp) (hlen : ∀ vs H Q E, sp' vs H Q E → vs.length = ps.length)
    (h : ∀ vs H Q E hp, HOk P w H hp → sp' vs H Q E → ∃ H1 Q1 E1, Gst H H1 ∧ HOk P w H1 hp ∧ sp vs H1 Q1 E1 ∧ ∀ v H2 hp2, HOk P w H2 hp2 → Q1 v H2 → ∃ H3, Gst H2 H3 ∧ HOk P w H3 hp2 ∧ Q v H3) : FnOk P w K mg base CX0 k f fd ps sp' := by
  refine ⟨hlen, fun A outer s H args us vs Q E hr e0 hb hv hs => ?_⟩
  obtain ⟨H1, Q1, E1, g, ok1, hs1, back⟩ := h vs H Q E s.heap e0.hok hs
  have e1 : Env0 P w K mg base A outer s H1 := ⟨e0.frames, e0.mod, fun b o q => ⟨(e0.bs b o q).1, g.1 b (e0.bs b o q).2⟩, e0.bsz, e0.funs, fun b hb => g.1 b (e0.frf b hb), ok1, e0.bare⟩
  refine codeAny_mono (F.run A outer s H1 args us vs Q1 E1 hr e1 hb hv hs1) fun r s' hq => ?_
  cases r with
  | error e => exact hq
  | ok fl =>
    cases fl with
    | ret u =>
      obtain ⟨v, H2, os, bare, un, ok2, rv, q1⟩ := hq
      obtain ⟨H3, g3, ok3, q⟩ := back v H2 _ ok2 q1
      refine ⟨v, H3, os, bare, ?_, ok3, rv, q⟩
      exact ⟨fun b o z n => un.keep b o z (g.1 b n), fun b o z n => un.slot b o z (g.1 b n), fun b o z n hx => g3.1 b (un.free b o z (g.1 b n) hx), un.there, fun b xs z => g3.2.1 b xs (un.tups b xs (g.2.1 b xs z)), fun b o u z => g3.2.2.1 b o u (un.frzs b o u (g.2.2.1 b o u z)),
        fun b ps z => by
          obtain ⟨m, z2⟩ := un.tbls b ps (g.2.2.2 b ps z)
          exact ⟨m, g3.2.2.2 b _ z2⟩⟩
    | next => exact hq
    | brk => exact hq
    | cont => exact hq

/-! ## a def that is never called so -/
theorem has_false {P : Program} {w : World} {K : PySem.W.Frag} {mg : Str → Option Value} {base : Heap} {k : Nat} {x nm : Str} {st : Stmt} {ps : List Str} {sp : Sp} (D : DefAt K mg x nm st)
    (hb : ∀ (kV doc pm : Value) (an : Option Addr) (cdv ct : Value) (us : List Value), us.length = ps.length → bindArgs (PySem.W.fnOf nm nm (defArgs st) (defBody st) (defScope st) .none kV doc pm an cdv ct) ⟨us, []⟩ = pure (ps.zip us))
    (h : ∀ vs H Q E, ¬ sp vs H Q E) : Has P w K mg base CX0 k x ps sp := by
  obtain ⟨f, fd, F, m⟩ := D
  exact ⟨f, fd, ⟨fun vs H Q E q => (h _ _ _ _ q).elim, fun _ _ _ H _ _ vs Q E _ _ _ _ q => (h _ _ _ _ q).elim⟩, m, F.kp, F.binds hb⟩

/-! ## data: rows of numbers, and anything at any depth -/
def Row (K : PySem.W.Frag) (H : Hp) (v : V) (xs : List V) : Prop := ∃ a, v = .ref a ∧ (SqL K H a xs ∨ SqT K H a xs)
theorem Row.same {K : PySem.W.Frag} {H H' : Hp} {v : V} {xs : List V} (h : Row K H v xs) (e : Same H H') : Row K H' v xs := by
  obtain ⟨a, rfl, h⟩ := h
  exact ⟨a, rfl, h.elim (fun h => .inl (e.seq h)) (fun h => .inr (Same.seqT e h))⟩
def tyN : PyData → String
  | .none => "NoneType"
  | .bool _ => "bool"
  | .int _ => "int"
  | .str _ => "str"
  | .list _ => "list"
  | .tuple _ => "tuple"
  | .dict _ => "dict"
theorem ty_l {K : PySem.W.Frag} {H : Hp} {a : Addr} {xs : List V} (h : SqL K H a xs) : TyX K H (.ref a) (.type "list") := by
  rcases h with (h | ⟨o, h⟩) | ⟨o, its, n, hk, hc, _⟩
  · exact .base (.lst h)
  · exact .base (.frz h)
  · exact .kList hk hc
theorem ty_t {K : PySem.W.Frag} {H : Hp} {a : Addr} {xs : List V} (h : SqT K H a xs) : TyX K H (.ref a) (.type "tuple") := by
  rcases h with (h | ⟨o, h⟩) | ⟨o, its, n, hk, hc, _⟩
  · exact .base (.tup h)
  · exact .fTuple h
  · exact .kTuple hk hc
theorem Dp.ty {K : PySem.W.Frag} {H : Hp} {v : V} {d : PyData} (h : Dp K H v d) : TyX K H v (.type (tyN d)) := by
  cases h with
  | non => exact .base .non
  | bl b => exact .base (.bl b)
  | int i => exact .base (.int i)
  | str x => exact .base (.str x)
  | lst h _ => exact ty_l h
  | tup h _ => exact ty_t h
mutual
theorem Dp.same {K : PySem.W.Frag} {H H' : Hp} (e : Same H H') : ∀ {v : V} {d : PyData}, Dp K H v d → Dp K H' v d
  | _, _, .non => .non
  | _, _, .bl b => .bl b
  | _, _, .int i => .int i
  | _, _, .str x => .str x
  | _, _, .lst h t => .lst (e.seq h) (DpAll.same e t)
  | _, _, .tup h t => .tup (Same.seqT e h) (DpAll.same e t)
theorem DpAll.same {K : PySem.W.Frag} {H H' : Hp} (e : Same H H') : ∀ {vs : List V} {ds : List PyData}, DpAll K H vs ds → DpAll K H' vs ds
  | _, _, .nil => .nil
  | _, _, .cons h t => .cons (Dp.same e h) (DpAll.same e t)
end
theorem DpAll.len {K : PySem.W.Frag} {H : Hp} : ∀ {vs : List V} {ds : List PyData}, DpAll K H vs ds → vs.length = ds.length
  | _, _, .nil => rfl
  | _, _, .cons _ t => by rw [List.length_cons, List.length_cons, DpAll.len t]
theorem DpAll.get {K : PySem.W.Frag} {H : Hp} : ∀ {vs : List V} {ds : List PyData} {i : Nat}, DpAll K H vs ds → (h : i < ds.length) → ∃ v, vs[i]? = some v ∧ Dp K H v ds[i]
  | _, _, i, .nil, h => absurd h (by simp)
  | _, _, 0, .cons d _, _ => ⟨_, rfl, d⟩
  | _, _, i + 1, .cons _ t, h => by
    obtain ⟨v, e, d⟩ := DpAll.get (i := i) t (by simpa using h)
    exact ⟨v, by simpa using e, d⟩
theorem dpAll_ints {K : PySem.W.Frag} {H : Hp} : ∀ ns : List Int, DpAll K H (ns.map V.int) (ns.map PyData.int)
  | [] => .nil
  | n :: r => .cons (.int n) (dpAll_ints r)
theorem DpAll.app {K : PySem.W.Frag} {H : Hp} : ∀ {vs ws : List V} {ds es : List PyData}, DpAll K H vs ds → DpAll K H ws es → DpAll K H (vs ++ ws) (ds ++ es)
  | _, _, _, _, .nil, t => t
  | _, _, _, _, .cons h r, t => .cons h (DpAll.app r t)
theorem kt_int {K : PySem.W.Frag} (d : PyData) : PySem.W.kitOne K (.type (tyN d)) (.type "int") = some (match d with | .int _ => true | .bool _ => true | _ => false) := by
  cases d with
  | none => exact kit_ty (a := "NoneType") (b := "int") (r := false) (by decide +kernel)
  | bool => exact kit_ty (a := "bool") (b := "int") (r := true) (by decide +kernel)
  | int => exact kit_ty (a := "int") (b := "int") (r := true) (by decide +kernel)
  | str => exact kit_ty (a := "str") (b := "int") (r := false) (by decide +kernel)
  | list => exact kit_ty (a := "list") (b := "int") (r := false) (by decide +kernel)
  | tuple => exact kit_ty (a := "tuple") (b := "int") (r := false) (by decide +kernel)
  | dict => exact kit_ty (a := "dict") (b := "int") (r := false) (by decide +kernel)
theorem kt_bool {K : PySem.W.Frag} (d : PyData) : PySem.W.kitOne K (.type (tyN d)) (.type "bool") = some (match d with | .bool _ => true | _ => false) := by
  cases d with
  | none => exact kit_ty (a := "NoneType") (b := "bool") (r := false) (by decide +kernel)
  | bool => exact kit_ty (a := "bool") (b := "bool") (r := true) (by decide +kernel)
  | int => exact kit_ty (a := "int") (b := "bool") (r := false) (by decide +kernel)
  | str => exact kit_ty (a := "str") (b := "bool") (r := false) (by decide +kernel)
  | list => exact kit_ty (a := "list") (b := "bool") (r := false) (by decide +kernel)
  | tuple => exact kit_ty (a := "tuple") (b := "bool") (r := false) (by decide +kernel)
  | dict => exact kit_ty (a := "dict") (b := "bool") (r := false) (by decide +kernel)
theorem kt_str {K : PySem.W.Frag} (d : PyData) : PySem.W.kitOne K (.type (tyN d)) (.type "str") = some (match d with | .str _ => true | _ => false) := by
  cases d with
  | none => exact kit_ty (a := "NoneType") (b := "str") (r := false) (by decide +kernel)
  | bool => exact kit_ty (a := "bool") (b := "str") (r := false) (by decide +kernel)
  | int => exact kit_ty (a := "int") (b := "str") (r := false) (by decide +kernel)
  | str => exact kit_ty (a := "str") (b := "str") (r := true) (by decide +kernel)
  | list => exact kit_ty (a := "list") (b := "str") (r := false) (by decide +kernel)
  | tuple => exact kit_ty (a := "tuple") (b := "str") (r := false) (by decide +kernel)
  | dict => exact kit_ty (a := "dict") (b := "str") (r := false) (by decide +kernel)
theorem kt_tuple {K : PySem.W.Frag} (d : PyData) : PySem.W.kitOne K (.type (tyN d)) (.type "tuple") = some (match d with | .tuple _ => true | _ => false) := by
  cases d with
  | none => exact kit_ty (a := "NoneType") (b := "tuple") (r := false) (by decide +kernel)
  | bool => exact kit_ty (a := "bool") (b := "tuple") (r := false) (by decide +kernel)
  | int => exact kit_ty (a := "int") (b := "tuple") (r := false) (by decide +kernel)
  | str => exact kit_ty (a := "str") (b := "tuple") (r := false) (by decide +kernel)
  | list => exact kit_ty (a := "list") (b := "tuple") (r := false) (by decide +kernel)
  | tuple => exact kit_ty (a := "tuple") (b := "tuple") (r := true) (by decide +kernel)
  | dict => exact kit_ty (a := "dict") (b := "tuple") (r := false) (by decide +kernel)
theorem kt_list {K : PySem.W.Frag} (d : PyData) : PySem.W.kitOne K (.type (tyN d)) (.type "list") = some (match d with | .list _ => true | _ => false) := by
  cases d with
  | none => exact kit_ty (a := "NoneType") (b := "list") (r := false) (by decide +kernel)
  | bool => exact kit_ty (a := "bool") (b := "list") (r := false) (by decide +kernel)
  | int => exact kit_ty (a := "int") (b := "list") (r := false) (by decide +kernel)
  | str => exact kit_ty (a := "str") (b := "list") (r := false) (by decide +kernel)
  | list => exact kit_ty (a := "list") (b := "list") (r := true) (by decide +kernel)
  | tuple => exact kit_ty (a := "tuple") (b := "list") (r := false) (by decide +kernel)
  | dict => exact kit_ty (a := "dict") (b := "list") (r := false) (by decide +kernel)
theorem tyx_same {K : PySem.W.Frag} {H H' : Hp} {x : V} {t : String} (e : Same H H') (ty : TyX K H x (.type t)) : TyX K H' x (.type t) := by
  cases ty with
  | base h => cases h with
    | non => exact .base .non
    | bl b => exact .base (.bl b)
    | int b => exact .base (.int b)
    | str b => exact .base (.str b)
    | flt b => exact .base (.flt b)
    | lst h => exact .base (.lst (e _ _ h))
    | frz h => exact .base (.frz (e _ _ h))
    | tup h => exact .base (.tup (e _ _ h))
    | dK h => exact .base (.dK (e _ _ h))
    | dT h => exact .base (.dT (e _ _ h))
  | byt b => exact .byt b
  | set h => exact .set (e _ _ h)
  | kList h c => exact .kList h c
  | kTuple h c => exact .kTuple h c
  | kDict h c => exact .kDict h c
  | fTuple h => exact .fTuple (e _ _ h)
  | fDict h => exact .fDict (e _ _ h)
def isSeqD : PyData → Bool
  | .list _ => true
  | .tuple _ => true
  | _ => false
theorem kt_tl {K : PySem.W.Frag} (d : PyData) : PySem.W.kitAny K (.type (tyN d)) [.type "tuple", .type "list"] = some (isSeqD d) := by
  refine kitAny_cons (kt_tuple d) (fun h1 => kitAny_cons (kt_list d) (fun h2 => ?_) (fun h2 => ?_)) (fun h1 => ?_)
  · cases d <;> first | rfl | exact absurd (show true = false from h2) (by decide) | exact absurd (show false = true from h2) (by decide) | exact absurd (show true = false from h1) (by decide) | exact absurd (show false = true from h1) (by decide)
  · cases d <;> first | rfl | exact absurd (show true = false from h2) (by decide) | exact absurd (show false = true from h2) (by decide) | exact absurd (show true = false from h1) (by decide) | exact absurd (show false = true from h1) (by decide)
  · cases d <;> first | rfl | exact absurd (show false = true from h1) (by decide)
def isI : V → Bool
  | .int _ => true
  | _ => false

/-- data that nests fewer than n deep, in rows of no great length -/
def Fit : Nat → PyData → Prop
  | 0, _ => False
  | n + 1, .list ds => ds.length ≤ 100000 ∧ ∀ d ∈ ds, Fit n d
  | n + 1, .tuple ds => ds.length ≤ 100000 ∧ ∀ d ∈ ds, Fit n d
  | _ + 1, .dict _ => False
  | _ + 1, _ => True
theorem fit_ints {n : Nat} {ns : List Int} : ∀ d ∈ ns.map PyData.int, Fit (n + 1) d := fun d h => by
  obtain ⟨z, _, rfl⟩ := List.mem_map.mp h
  exact True.intro
theorem size_le {n : Nat} (h : n ≤ 100000) : n ≤ sizeLine := Nat.le_trans h (by decide)
theorem size_lt {n : Nat} (h : n < 100000) : n < sizeLine := Nat.lt_of_lt_of_le h (by decide)
theorem len_rep {n : Nat} {b : Bool} : ((List.replicate n b).map V.bl).length = n := by rw [List.length_map, List.length_replicate]
theorem all_rep {n : Nat} : (List.replicate n true).all id = true := by
  rw [List.all_eq_true]
  intro x hx
  rw [List.eq_of_mem_replicate hx]; rfl
theorem same_mut {H H' : Hp} {p : Addr} {o : HO} (e : Same H H') (h : H p = none) : Same H (upd H' p o) := fun b x z => by
  rw [upd_ne (ne_of_none z h)]; exact e _ _ z

/-! ## rules with the written part named (for use within a block) -/
section
variable {X : Cx} {K : PySem.W.Frag}
theorem ixL (h : X.K = K) : IxR X (rIxL K) := h ▸ ix_list
theorem ixT (h : X.K = K) : IxR X (rIxT K) := h ▸ ix_tup
theorem ixQ (h : X.K = K) : IxR X (rIx K) := h ▸ ix_seq
def rLenK (K : PySem.W.Frag) : List V → Hp → VK → Prop := fun xs H Q => ∃ x n, xs = [x] ∧ LenV K x H n ∧ Q (.int n) H
theorem lenK (h : X.K = K) : CallR X (.builtin "len") (rLenK K) := by subst h; exact call_len
theorem isiK (h : X.K = K) : CallR X (.builtin "isinstance") (rIsi K) := h ▸ call_isi
theorem isiTK (h : X.K = K) : CallR X (.builtin "isinstance") (rIsiT K) := h ▸ call_isiT
def rListK (K : PySem.W.Frag) : List V → Hp → VK → Prop := fun xs H Q => ∃ p ys, xs = [.ref p] ∧ (SqL K H p ys ∨ SqT K H p ys) ∧ ∀ l, H l = none → Q (.ref l) (upd H l (.lst ys))
theorem listK (h : X.K = K) : CallR X (.type "list") (rListK K) := by subst h; exact call_list_of
def rTupK (K : PySem.W.Frag) : List V → Hp → VK → Prop := fun xs H Q => ∃ p ys, xs = [.ref p] ∧ ((SqL K H p ys ∧ ∀ l, H l = none → Q (.ref l) (upd H l (.tup ys))) ∨ (SqT K H p ys ∧ Q (.ref p) H))
theorem tupK (h : X.K = K) : CallR X (.type "tuple") (rTupK K) := by subst h; exact call_tuple_of
theorem sumK (hc : X.calm = true) (h : X.K = K) : CallR X (.builtin "sum") (rSum K) := h ▸ cr_sum hc
theorem allK (hc : X.calm = true) (h : X.K = K) : CallR X (.builtin "all") (rAll K) := h ▸ cr_all hc
theorem anyK (hc : X.calm = true) (h : X.K = K) : CallR X (.builtin "any") (rAny K) := h ▸ cr_any hc
theorem slL (h : X.K = K) : SlR X (rSlL K) := h ▸ sl_list
theorem slT (h : X.K = K) : SlR X (rSlA K) := h ▸ sl_tupA
theorem inK (h : X.K = K) : OpR X (compareOp .In) (rIn K false) := h ▸ op_in_seq
theorem ninK (h : X.K = K) : OpR X (compareOp .NotIn) (rIn K true) := h ▸ op_notIn_seq
theorem catK (h : X.K = K) : OpR X (binaryOp .Add) (rCatA K) := h ▸ op_catA
theorem piL (h : X.K = K) {tg l : Expr} {tl : TE} (hl : PE X l tl) : PI X tg l (iList K tl) := by subst h; exact pi_list hl
theorem piT (h : X.K = K) {tg l : Expr} {tl : TE} (hl : PE X l tl) : PI X tg l (iTup K tl) := by subst h; exact pi_tup hl
theorem pgT (h : X.K = K) {es : List Expr} {k : Nat} {t : TGs} {n : Nat} {pos : Pos} (hc : X.calm = true) (hp : PGs X es t) (hst : (assignEach es X.env).findIdx? (·.1) = none := by rfl) (hn : (assignEach es X.env).length = n := by rfl) : PG X (.Tuple es k pos) (gTup K n t) := by
  subst h; subst hn
  exact pg_tup hc hp rfl hst
theorem fldK (h : X.K = K) {e : Expr} {f : Str} {ta : TE} {pos : Pos} (he : PE X e ta) (hb : attributeBase e f X.env (eval e X.env) = eval e X.env) : PE X (.Attribute e f pos) (tFld K ta f) := by subst h; exact pe_fld he hb
end
end G3

set_option Elab.async false
set_option linter.all false
set_option maxRecDepth 100000
set_option maxHeartbeats 1000000
namespace G3
open PySem PySem.Spec PyProof.Rows L2
def top (i : Nat) : Stmt := PySem.Challenge.pw_chipsproved_k73_whole_branch_rows.main.body.getD i (.Pass ⟨0, 0, 0, 0⟩)
abbrev s_BadSum___init__ : Stmt := inClass (top 3) 0
abbrev s_is_whole : Stmt := top 11
abbrev s_told_sum : Stmt := top 6
abbrev s_BadGraph___init__ : Stmt := inClass (top 10) 0
abbrev s_is_whole_at4 : Stmt := top 4
abbrev s_edge_fault : Stmt := top 13
abbrev s_together : Stmt := top 14
abbrev s_Graph___init__ : Stmt := inClass (top 15) 0
abbrev s_Graph___eq__ : Stmt := inClass (top 15) 1
abbrev s_laplace : Stmt := top 16
abbrev s_valences : Stmt := top 18
abbrev s_BadGraphMap___init__ : Stmt := inClass (top 20) 0
abbrev s_told_places : Stmt := top 21
abbrev s_is_over : Stmt := top 22
abbrev s_told_edges : Stmt := top 23
abbrev s_counted : Stmt := top 24
abbrev s_told_sheets : Stmt := top 25
abbrev s_GraphMap___init__ : Stmt := inClass (top 26) 0
abbrev s_gathered : Stmt := top 27
abbrev s_pushed : Stmt := top 28
abbrev s_spread : Stmt := top 29
abbrev s_pulled : Stmt := top 30
abbrev s_branch_row : Stmt := top 31
abbrev s_map_after : Stmt := top 32
abbrev s_law_pool : Stmt := top 34
abbrev s_law_take : Stmt := top 35
abbrev s_law_pick : Stmt := top 36
abbrev s_law_is_integer : Stmt := top 37
abbrev s_law_same : Stmt := top 38
abbrev s_law_below : Stmt := top 39
abbrev s_law_order : Stmt := top 40
abbrev s_law_power : Stmt := top 41
abbrev s_law_graph : Stmt := top 42
abbrev s_law_all_pairs : Stmt := top 43
abbrev s_law_table : Stmt := top 44
abbrev s_law_great_row : Stmt := top 45
abbrev s_law_pieces : Stmt := top 46
abbrev s_law_sheets : Stmt := top 47
abbrev s_law_map : Stmt := top 48
abbrev s_law_counts : Stmt := top 49
abbrev s_law_goal : Stmt := top 50
abbrev s_law_sheets_of : Stmt := top 51
abbrev s_law_fault : Stmt := top 52
abbrev s_law_is_branched : Stmt := top 53
abbrev s_law : Stmt := top 54
/-- what the module leaves free -/
structure Bt (mg : Str → Option Value) : Prop where
  len : mg "len" = none
  int : mg "int" = none
  list : mg "list" = none
  tuple : mg "tuple" = none
  range : mg "range" = none
  isinstance : mg "isinstance" = none
  bool : mg "bool" = none
  str : mg "str" = none
  all : mg "all" = none
  any : mg "any" = none
  min : mg "min" = none
  max : mg "max" = none
  sum : mg "sum" = none
  enumerate : mg "enumerate" = none
  zip : mg "zip" = none
  sorted : mg "sorted" = none
  repr : mg "repr" = none
section
variable {P : Program} {w : World} {K : PySem.W.Frag} {mg : Str → Option Value} {base : Heap}
abbrev n_law_take : List Str := ["pool", "many", "digit", "cell", "mixed"]
abbrev p_law_take : List Str := ["pool", "many"]
theorem sc_law_take : FnScope n_law_take p_law_take (defScope s_law_take) := ⟨rfl, rfl, rfl, by decide +kernel, rfl, by decide +kernel, by decide +kernel⟩
/-- a digit from the drawn number's own figures -/
def spTake1 : Sp := fun vs H Q _ => ∃ (a c : Addr) (i d s m : Int), vs = [.ref a, .int m] ∧ H a = some (.lst (poolL c i d s)) ∧ 0 < d ∧ 0 < m ∧ m < 1073741824 ∧
  ∀ r d', 0 ≤ r → r < m → 0 ≤ d' → Q (.int r) (upd H a (.lst (poolL c i d' s)))
theorem ok_take1 (D : DefAt K mg "_law_take" "_law_take" s_law_take) (B : Bt mg) : Has P w K mg base CX0 1 "_law_take" p_law_take spTake1 := by
  refine has_of D sc_law_take (fun _ _ _ _ _ _ us hl => match us, hl with | [_, _], _ => rfl) (fun vs H Q E h => ?_) (fun f cdv A outer s H vs Q E hr h => ?_)
  · obtain ⟨a, c, i, d, s, m, rfl, _⟩ := h
    rfl
  · obtain ⟨a, c, i, d, s0, m, rfl, hp, hd, hm, hm2, q⟩ := h
    refine ⟨_, (pss_cons (ps_if (pt_cmpR op_gt (pe_ix (ixL (K := K) rfl) (pv 0) pe_int (fun _ _ => rfl)) pe_int (nomark _)) (pss_cons (ps_set (i := 2) sc_law_take.nd rfl (.inl rfl) (pe_op op_mod (pe_callTy call_int1 rfl B.int (by decide +kernel) (pa_cons (pe_ix (ixL (K := K) rfl) (pv 0) pe_int (fun _ _ => rfl)) pa_nil)) (pv 1)))
  (pss_cons (ps_asg (pe_op op_fdiv (pe_ix (ixL (K := K) rfl) (pv 0) pe_int (fun _ _ => rfl)) (pv 1)) (pg_sub (pv 0) pe_int set_list))
  (pss_one (ps_ret (pv 2))))) pss_nil)
  pss_never), ?_⟩
    have hL := SqL.of (K := K) hp
    refine ⟨_, rfl, _, _, 2, .int d, rfl, rfl, hL, atI_nat (j := 2) rfl, _, _, rfl, rfl, _, rfl, ?_⟩
    refine ifD (fun _ => ?_) (fun e => absurd hd e)
    -- digit = int(pool[2]) % many
    refine ⟨_, rfl, _, _, 2, .int d, rfl, rfl, hL, atI_nat (j := 2) rfl, .inl ⟨d, rfl, ?_⟩⟩
    refine ⟨_, rfl, _, _, rfl, rfl, hm, ?_⟩
    -- pool[2] = pool[2] // many
    refine ⟨_, rfl, _, _, 2, .int d, rfl, rfl, hL, atI_nat (j := 2) rfl, _, rfl, _, _, rfl, rfl, ⟨hm, hm2⟩, _, rfl, a, _, 2, 2, rfl, rfl, hp, rfl, ?_⟩
    refine ⟨_, rfl, ?_⟩
    exact q _ _ (Int.emod_nonneg _ (by omega)) (Int.emod_lt_of_pos _ hm) (Int.ediv_nonneg (by omega) (by omega))
/-- the law's draw: any number below many, nothing else is seen of it -/
def spTake0 : Sp := fun vs H Q _ => ∃ (a c : Addr) (i d s m : Int) (ns : List Int), vs = [.ref a, .int m] ∧ H a = some (.lst (poolL c i d s)) ∧ H c = some (.lst (ns.map V.int)) ∧ (∀ n ∈ ns, (0 : Int) ≤ n) ∧ 0 ≤ i ∧ 0 ≤ d ∧ 0 ≤ s ∧ s < 2147483647 ∧ 0 < m ∧ m < 1073741824 ∧
  ∀ r i' d' s', 0 ≤ r → r < m → 0 ≤ i' → 0 ≤ d' → 0 ≤ s' → s' < 2147483647 → Q (.int r) (upd H a (.lst (poolL c i' d' s')))
theorem ok_take0 (D : DefAt K mg "_law_take" "_law_take" s_law_take) (B : Bt mg) : Has P w K mg base CX0 2 "_law_take" p_law_take spTake0 := by
  have h_law_take : Has P w K mg base CX0 1 "_law_take" p_law_take spTake1 := ok_take1 D B
  refine has_of D sc_law_take (fun _ _ _ _ _ _ us hl => match us, hl with | [_, _], _ => rfl) (fun vs H Q E h => ?_) (fun f cdv A outer s H vs Q E hr h => ?_)
  · obtain ⟨a, c, i, d, s, m, ns, rfl, _⟩ := h
    rfl
  · obtain ⟨a, c, i, d, s0, m, ns, rfl, hp, hc, hns, hi, hd, hs, hs2, hm, hm2, q⟩ := h
    refine ⟨_, (pss_cons (ps_if (pt_cmpR op_gt (pe_ix (ixL (K := K) rfl) (pv 0) pe_int (fun _ _ => rfl)) pe_int (nomark _)) (pss_cons (ps_set (i := 2) sc_law_take.nd rfl (.inl rfl) (pe_op op_mod (pe_callTy call_int1 rfl B.int (by decide +kernel) (pa_cons (pe_ix (ixL (K := K) rfl) (pv 0) pe_int (fun _ _ => rfl)) pa_nil)) (pv 1)))
  (pss_cons (ps_asg (pe_op op_fdiv (pe_ix (ixL (K := K) rfl) (pv 0) pe_int (fun _ _ => rfl)) (pv 1)) (pg_sub (pv 0) pe_int set_list))
  (pss_one (ps_ret (pv 2))))) pss_nil)
  (pss_cons (ps_set (i := 3) sc_law_take.nd rfl (.inl rfl) pe_int)
  (Evl.pss_cut (ps_if (pt_cmpR op_lt (pe_ix (ixL (K := K) rfl) (pv 0) pe_int (fun _ _ => rfl)) (pe_callB (lenK (K := K) rfl) rfl B.len PySem.boot_len (pa_cons (pe_ix (ixL (K := K) rfl) (pv 0) pe_int (fun _ _ => rfl)) pa_nil)) (nomark _)) (pss_one (ps_set (i := 3) sc_law_take.nd rfl (.inl rfl) (pe_ix (ixL (K := K) rfl) (pe_ix (ixL (K := K) rfl) (pv 0) pe_int (fun _ _ => rfl)) (pe_ix (ixL (K := K) rfl) (pv 0) pe_int (fun _ _ => rfl)) (fun _ _ => rfl)))) pss_nil)
  (pss_cons (ps_asg (pe_op op_add (pe_ix (ixL (K := K) rfl) (pv 0) pe_int (fun _ _ => rfl)) pe_int) (pg_sub (pv 0) pe_int set_list))
  (pss_cons (ps_if (pt_cmpR op_ge (pv 3) (pe_op op_pow pe_int pe_int) (nomark _)) (pss_cons (ps_asg (pe_op op_fdiv (pv 3) pe_int) (pg_sub (pv 0) pe_int set_list))
  (pss_one (ps_ret (pe_h h_law_take hr pass0 (pa_cons (pv 0) (pa_cons (pv 1) pa_nil)))))) pss_nil)
  (pss_cons (ps_asg (pe_op op_mod (pe_callTy call_int1 rfl B.int (by decide +kernel) (pa_cons (pe_op op_add (pe_op op_add (pe_op op_mul (pe_ix (ixL (K := K) rfl) (pv 0) pe_int (fun _ _ => rfl)) pe_int) (pe_op op_mul (pv 3) pe_int)) (pe_op op_mul (pe_ix (ixL (K := K) rfl) (pv 0) pe_int (fun _ _ => rfl)) pe_int)) pa_nil)) pe_int) (pg_sub (pv 0) pe_int set_list))
  (pss_cons (ps_set (i := 4) sc_law_take.nd rfl (.inl rfl) (pe_op op_mod (pe_callTy call_int1 rfl B.int (by decide +kernel) (pa_cons (pe_op op_add (pe_op op_add (pe_op op_mul (pe_ix (ixL (K := K) rfl) (pv 0) pe_int (fun _ _ => rfl)) (pe_ix (ixL (K := K) rfl) (pv 0) pe_int (fun _ _ => rfl))) (pe_op op_mul (pe_ix (ixL (K := K) rfl) (pv 0) pe_int (fun _ _ => rfl)) pe_int)) pe_int) pa_nil)) pe_int))
  (pss_one (ps_ret (pe_op op_mod (pe_callTy call_int1 rfl B.int (by decide +kernel) (pa_cons (pe_op op_fdiv (pv 4) pe_int) pa_nil)) (pv 1))))))))))), ?_⟩
    have hL := SqL.of (K := K) hp
    have hC := SqL.of (K := K) hc
    have nca : c ≠ a := ne_of hc hp (fun e => by
      have e1 := HO.lst.inj e
      cases ns with
      | nil => cases e1
      | cons z r =>
        have := (List.cons.inj e1).1
        cases this)
    refine ⟨_, rfl, _, _, 2, .int d, rfl, rfl, hL, atI_nat (j := 2) rfl, _, _, rfl, rfl, _, rfl, ?_⟩
    refine ifD (fun _ => ?_) (fun d0 => ?_)
    · refine ⟨_, rfl, _, _, 2, .int d, rfl, rfl, hL, atI_nat (j := 2) rfl, .inl ⟨d, rfl, ?_⟩⟩
      refine ⟨_, rfl, _, _, rfl, rfl, hm, ?_⟩
      refine ⟨_, rfl, _, _, 2, .int d, rfl, rfl, hL, atI_nat (j := 2) rfl, _, rfl, _, _, rfl, rfl, ⟨hm, hm2⟩, _, rfl, a, _, 2, 2, rfl, rfl, hp, rfl, ?_⟩
      refine ⟨_, rfl, ?_⟩
      exact q _ i (d / m) s0 (Int.emod_nonneg _ (by omega)) (Int.emod_lt_of_pos _ hm) hi (Int.ediv_nonneg (by omega) (by omega)) hs hs2
    · have d0 : d = 0 := by omega
      subst d0
      refine ⟨fun σ' H' => H' = H ∧ ∃ (y1 y2 : Option V) (cell : Int), 0 ≤ cell ∧ σ' = [some (.ref a), some (.int m), y1, some (.int cell), y2], ?_, ?_⟩
      · refine ⟨_, rfl, _, _, 1, .int i, rfl, rfl, hL, atI_nat (j := 1) rfl, _, rfl, _, _, 0, .ref c, rfl, rfl, hL, atI_nat (j := 0) rfl, _, _, rfl, .inl ⟨_, hC, rfl⟩, _, _, rfl, rfl, _, rfl, ?_⟩
        refine ifD (fun hlt => ?_) (fun _ => ?_)
        · have hl2 : i.toNat < ns.length := by
            rw [List.length_map] at hlt
            omega
          refine ⟨_, rfl, _, _, 0, .ref c, rfl, rfl, hL, atI_nat (j := 0) rfl, _, rfl, _, _, 1, .int i, rfl, rfl, hL, atI_nat (j := 1) rfl, _, _, i, .int (ns[i.toNat]), rfl, rfl, hC, ?_, ?_⟩
          · exact atI_int hi (getMap hl2)
          · exact ⟨rfl, _, _, _, hns _ (List.getElem_mem hl2), rfl⟩
        · exact ⟨rfl, _, _, _, Int.le_refl 0, rfl⟩
      · rintro σ' H' ⟨rfl, y1, y2, cell, hcell, rfl⟩
        -- pool[1] = pool[1] + 1
        refine ⟨_, rfl, _, _, 1, .int i, rfl, rfl, hL, atI_nat (j := 1) rfl, _, _, rfl, rfl, _, rfl, a, _, 1, 1, rfl, rfl, hp, rfl, ?_⟩
        have hp1 : (upd H' a (.lst (poolL c (i + 1) 0 s0))) a = some (.lst (poolL c (i + 1) 0 s0)) := upd_same
        have hc1 : (upd H' a (.lst (poolL c (i + 1) 0 s0))) c = some (.lst (ns.map V.int)) := by rw [upd_ne nca]; exact hc
        have hL1 := SqL.of (K := K) hp1
        -- if cell >= 10 ** 18
        refine ⟨_, rfl, _, _, rfl, rfl, ⟨by decide, by decide, by decide⟩, _, _, rfl, rfl, _, rfl, ?_⟩
        refine ifD (fun hbig => ?_) (fun _ => ?_)
        · have hbig : (10 : Int) ^ (18 : Int).toNat ≤ cell := hbig
          have h18 : (10 : Int) ^ (18 : Int).toNat = 1000000000000000000 := by decide
          rw [h18] at hbig
          refine ⟨_, rfl, _, _, rfl, rfl, ⟨by decide, by decide⟩, _, rfl, a, _, 2, 2, rfl, rfl, hp1, rfl, ?_⟩
          refine ⟨_, rfl, _, rfl, a, c, i + 1, cell / 2, s0, m, rfl, upd_same, by omega, hm, hm2, fun r d' h1 h2 h3 => ?_⟩
          rw [upd_upd, upd_upd]
          exact q _ _ _ _ h1 h2 (by omega) h3 hs hs2
        · -- pool[3] = ..
          refine ⟨_, rfl, _, _, 3, .int s0, rfl, rfl, hL1, atI_nat (j := 3) rfl, _, _, rfl, rfl, .inr ⟨by decide, by decide⟩, _, rfl, _, _, rfl, rfl, .inr ⟨by decide, by decide⟩, _, _, rfl, rfl,
            _, rfl, _, _, 1, .int (i + 1), rfl, rfl, hL1, atI_nat (j := 1) rfl, _, _, rfl, rfl, .inr ⟨by decide, by decide⟩, _, _, rfl, rfl, .inl ⟨_, rfl, ?_⟩⟩
          obtain ⟨s1, es1⟩ : ∃ s1, s1 = (s0 * 48271 + cell * 69621 + (i + 1) * 613) % 2147483647 := ⟨_, rfl⟩
          have hx : 0 ≤ s1 := es1 ▸ Int.emod_nonneg (s0 * 48271 + cell * 69621 + (i + 1) * 613) (show (2147483647 : Int) ≠ 0 by decide)
          have hy : s1 < 2147483647 := es1 ▸ Int.emod_lt_of_pos (s0 * 48271 + cell * 69621 + (i + 1) * 613) (show (0 : Int) < 2147483647 by decide)
          refine ⟨_, _, rfl, rfl, (show (0 : Int) < 2147483647 by decide), _, rfl, a, _, 3, 3, rfl, rfl, hp1, rfl, ?_⟩
          rw [upd_upd]
          have hp2 : (upd H' a (.lst (poolL c (i + 1) 0 ((s0 * 48271 + cell * 69621 + (i + 1) * 613) % 2147483647)))) a = some (.lst (poolL c (i + 1) 0 s1)) := es1 ▸ upd_same
          have hL2 := SqL.of (K := K) hp2
          refine ⟨_, rfl, _, _, 3, .int s1, rfl, rfl, hL2, atI_nat (j := 3) rfl, _, rfl, _, _, 3, .int s1, rfl, rfl, hL2, atI_nat (j := 3) rfl, _, _, rfl, rfl, .inl ⟨by omega, by omega⟩,
            _, rfl, _, _, 3, .int s1, rfl, rfl, hL2, atI_nat (j := 3) rfl, _, _, rfl, rfl, .inr ⟨by decide, by decide⟩, _, _, rfl, rfl, _, _, rfl, rfl, .inl ⟨_, rfl, ?_⟩⟩
          refine ⟨_, _, rfl, rfl, (show (0 : Int) < 1000000007 by decide), ?_⟩
          -- return int(mixed // 3) % many
          refine ⟨_, rfl, _, _, rfl, rfl, ⟨by decide, by decide⟩, .inl ⟨_, rfl, ?_⟩⟩
          refine ⟨_, rfl, _, _, rfl, rfl, hm, ?_⟩
          exact q _ _ _ _ (Int.emod_nonneg _ (by omega)) (Int.emod_lt_of_pos _ hm) (by omega) (Int.le_refl 0) (es1 ▸ hx) (es1 ▸ hy)
/-- .. over the pool as it is seen from outside -/
def spTake : Sp := fun vs H Q _ => ∃ (a : Addr) (m : Int), vs = [.ref a, .int m] ∧ PoolAt H a ∧ 0 < m ∧ m < 1073741824 ∧ ∀ r, 0 ≤ r → r < m → Q (.int r) H
theorem ok_take (D : DefAt K mg "_law_take" "_law_take" s_law_take) (B : Bt mg) : Has P w K mg base CX0 2 "_law_take" p_law_take spTake := by
  obtain ⟨f, fd, F, m, kp, b⟩ := ok_take0 (P := P) (w := w) (base := base) D B
  refine ⟨f, fd, ghost_call F (fun vs H Q E h => ?_) (fun vs H Q E hp ok h => ?_), m, kp, b⟩
  · obtain ⟨a, m, rfl, _⟩ := h
    rfl
  · obtain ⟨a, m, rfl, ⟨c, ns, h1, h2, h3⟩, hm, hm2, q⟩ := h
    obtain ⟨i, d, s, hi, hd, hs, hs2, ok1⟩ := pool_open ok h1
    have nca : c ≠ a := ne_of h2 h1 (fun e => by cases e)
    refine ⟨_, fun v H2 => ∃ r i' d' s', v = .int r ∧ 0 ≤ r ∧ r < m ∧ 0 ≤ i' ∧ 0 ≤ d' ∧ 0 ≤ s' ∧ s' < 2147483647 ∧ H2 = upd H a (.lst (poolL c i' d' s')), fun _ _ _ => False, Gst.upd h1 (fun xs => ext_tup) (fun o u z => by cases z) (fun ps z => by cases z), ok1, ?_, ?_⟩
    · refine ⟨a, c, i, d, s, m, ns, rfl, upd_same, by rw [upd_ne nca]; exact h2, h3, hi, hd, hs, hs2, hm, hm2, fun r i' d' s' r1 r2 r3 r4 r5 r6 => ?_⟩
      exact ⟨r, i', d', s', rfl, r1, r2, r3, r4, r5, r6, upd_upd⟩
    · rintro v H2 hp2 ok2 ⟨r, i', d', s', rfl, r1, r2, r3, r4, r5, r6, rfl⟩
      have e2 : (upd H a (.lst (poolL c i' d' s'))) a = some (.lst (poolL c i' d' s')) := upd_same
      refine ⟨_, Gst.upd e2 (fun xs => lst_tup) (fun o u z => by cases z) (fun ps z => by cases z), pool_close ok2 e2 r3 r4 r5 r6, ?_⟩
      rw [upd_upd]
      have e : upd H a (PoolO a c) = H := by
        funext b'
        by_cases hb : b' = a
        · subst hb; rw [upd_same, h1]
        · rw [upd_ne hb]
      rw [e]
      exact q r r1 r2

/-! ### _law_pick -/
abbrev n_law_pick : List Str := ["pool", "rows"]
abbrev p_law_pick : List Str := ["pool", "rows"]
theorem sc_law_pick : FnScope n_law_pick p_law_pick (defScope s_law_pick) := ⟨rfl, rfl, rfl, by decide +kernel, rfl, by decide +kernel, by decide +kernel⟩
abbrev n_law_is_integer : List Str := ["actual"]
abbrev p_law_is_integer : List Str := ["actual"]
theorem sc_law_is_integer : FnScope n_law_is_integer p_law_is_integer (defScope s_law_is_integer) := ⟨rfl, rfl, rfl, by decide +kernel, rfl, by decide +kernel, by decide +kernel⟩
abbrev n_law_same : List Str := ["actual", "due", "k"]
abbrev p_law_same : List Str := ["actual", "due"]
theorem sc_law_same : FnScope n_law_same p_law_same (defScope s_law_same) := ⟨rfl, rfl, rfl, by decide +kernel, rfl, by decide +kernel, by decide +kernel⟩
def spPick (K : PySem.W.Frag) : Sp := fun vs H Q _ => ∃ (a b : Addr) (xs : List V), vs = [.ref a, .ref b] ∧ PoolAt H a ∧ SqL K H b xs ∧ 0 < xs.length ∧ xs.length < 1000000000 ∧ ∀ (i : Nat) v, xs[i]? = some v → Q v H
theorem ok_pick (D : DefAt K mg "_law_pick" "_law_pick" s_law_pick) (B : Bt mg) (h_law_take : Has P w K mg base CX0 2 "_law_take" p_law_take spTake) : Has P w K mg base CX0 3 "_law_pick" p_law_pick (spPick K) := by
  refine has_of D sc_law_pick (fun _ _ _ _ _ _ us hl => match us, hl with | [_, _], _ => rfl) (fun vs H Q E h => ?_) (fun f cdv A outer s H vs Q E hr h => ?_)
  · obtain ⟨a, b, xs, rfl, _⟩ := h
    rfl
  · obtain ⟨a, b, xs, rfl, hp, hb, h0, h1, q⟩ := h
    refine ⟨_, (pss_one (ps_ret (pe_ix (ixL (K := K) rfl) (pv 1) (pe_h h_law_take hr pass0 (pa_cons (pv 0) (pa_cons (pe_callB (lenK (K := K) rfl) rfl B.len PySem.boot_len (pa_cons (pv 1) pa_nil)) pa_nil))) (fun _ _ => rfl)))), ?_⟩
    refine ⟨_, rfl, _, rfl, _, rfl, _, xs.length, rfl, .inl ⟨_, hb, rfl⟩, ?_⟩
    refine ⟨a, _, rfl, hp, by omega, by omega, fun r r0 r1 => ?_⟩
    have hr : r.toNat < xs.length := by omega
    exact ⟨_, _, r, xs[r.toNat], rfl, rfl, hb, atI_int r0 (List.getElem?_eq_getElem hr), q _ _ (List.getElem?_eq_getElem hr)⟩
/-! ### _law_is_integer -/
def spIsI (K : PySem.W.Frag) : Sp := fun vs H Q _ => ∃ (x : V) (d : PyData), vs = [x] ∧ Dp K H x d ∧ Q (.bl (isI x)) H
theorem ok_is_integer (D : DefAt K mg "_law_is_integer" "_law_is_integer" s_law_is_integer) (B : Bt mg) : Has P w K mg base CX0 1 "_law_is_integer" p_law_is_integer (spIsI K) := by
  refine has_of D sc_law_is_integer (fun _ _ _ _ _ _ us hl => match us, hl with | [_], _ => rfl) (fun vs H Q E h => ?_) (fun f cdv A outer s H vs Q E hr h => ?_)
  · obtain ⟨x, d, rfl, _⟩ := h
    rfl
  · obtain ⟨x, d, rfl, hd, q⟩ := h
    refine ⟨_, (pss_one (ps_ret (pe_and (pe_callB (isiK (K := K) rfl) rfl B.isinstance (by decide +kernel) (pa_cons (pv 0) (pa_cons (pe_bltn (v := .ty "int") (u := .type "int") rfl B.int (by decide +kernel) rfl) pa_nil))) (pe_one (pe_not (pe_callB (isiK (K := K) rfl) rfl B.isinstance (by decide +kernel) (pa_cons (pv 0) (pa_cons (pe_bltn (v := .ty "bool") (u := .type "bool") rfl B.bool (by decide +kernel) rfl) pa_nil)))))))), ?_⟩
    have ty := Dp.ty hd
    refine ⟨_, rfl, _, _, _, _, _, rfl, .ty _, ty, kt_int d, _, rfl, ?_⟩
    cases hd with
    | non => exact iteF q
    | bl b => exact iteT ⟨_, rfl, _, _, _, _, _, rfl, .ty _, ty, kt_bool _, _, rfl, q⟩
    | int i => exact iteT ⟨_, rfl, _, _, _, _, _, rfl, .ty _, ty, kt_bool _, _, rfl, q⟩
    | str x => exact iteF q
    | lst _ _ => exact iteF q
    | tup _ _ => exact iteF q

/-! ### _law_same -/
def spSame (K : PySem.W.Frag) (n : Nat) : Sp := fun vs H Q _ => ∃ (x y : V) (d : PyData), vs = [x, y] ∧ Dp K H x d ∧ Dp K H y d ∧ Fit n d ∧ ∀ H', Same H H' → Q (.bl true) H'
theorem ok_same (D : DefAt K mg "_law_same" "_law_same" s_law_same) (B : Bt mg) (h_law_is_integer : Has P w K mg base CX0 1 "_law_is_integer" p_law_is_integer (spIsI K)) : ∀ n, Has P w K mg base CX0 (n + 1) "_law_same" p_law_same (spSame K n)
  | 0 => has_false D (fun _ _ _ _ _ _ us hl => match us, hl with | [_, _], _ => rfl) (fun vs H Q E h => by obtain ⟨x, y, d, _, _, _, h, _⟩ := h; exact h)
  | n + 1 => by
    have h_law_same := ok_same D B h_law_is_integer n
    refine has_of D sc_law_same (fun _ _ _ _ _ _ us hl => match us, hl with | [_, _], _ => rfl) (fun vs H Q E h => ?_) (fun f cdv A outer s H vs Q E hr h => ?_)
    · obtain ⟨x, y, d, rfl, _⟩ := h
      rfl
    · obtain ⟨x, y, d, rfl, hx, hy, hn, q⟩ := h
      have hr0 : Room 1 _ := hr.mono (by omega)
      refine ⟨_, (pss_cons (ps_if (pt_val (pe_callB (isiK (K := K) rfl) rfl B.isinstance (by decide +kernel) (pa_cons (pv 1) (pa_cons (pe_bltn (v := .ty "tuple") (u := .type "tuple") rfl B.tuple (by decide +kernel) rfl) pa_nil)))) (pss_cons (ps_if (PW.pt (pw_or (pt_not (pt_val (pe_callB (isiK (K := K) rfl) rfl B.isinstance (by decide +kernel) (pa_cons (pv 0) (pa_cons (pe_bltn (v := .ty "tuple") (u := .type "tuple") rfl B.tuple (by decide +kernel) rfl) pa_nil))))) (pw_or1 (pt_cmpR op_ne (pe_callB (lenK (K := K) rfl) rfl B.len PySem.boot_len (pa_cons (pv 0) pa_nil)) (pe_callB (lenK (K := K) rfl) rfl B.len PySem.boot_len (pa_cons (pv 1) pa_nil)) (nomark _))))) (pss_one (ps_ret pe_bl)) pss_nil)
  (pss_one (ps_ret (pe_callB (allK (K := K) rfl rfl) rfl B.all (by decide +kernel) (pa_cons (pe_lc (own := [("k", 2)]) (g := gName 2) (tt := tYes) rfl sc_law_same.nd (pi_range1 rfl B.range (pa_cons (pe_callB (lenK (K := K) rfl) rfl B.len PySem.boot_len (pa_cons (pv 1) pa_nil)) pa_nil)) (blkOk_by (N := n_law_same) (sc := defScope s_law_same) (by decide +kernel)) (fun _ _ _ _ _ => (pg_name (i := 2) sc_law_same.nd rfl (.inl rfl))) (fun _ _ _ _ _ => pts_nil) (fun _ _ _ _ _ => (pe_h h_law_same hr pass0 (pa_cons (pe_ix (ixQ (K := K) rfl) (pv 0) (pv 2) (fun _ _ => rfl)) (pa_cons (pe_ix (ixQ (K := K) rfl) (pv 1) (pv 2) (fun _ _ => rfl)) pa_nil))))) pa_nil))))) pss_nil)
  (pss_cons (ps_if (pt_val (pe_callB (isiK (K := K) rfl) rfl B.isinstance (by decide +kernel) (pa_cons (pv 1) (pa_cons (pe_bltn (v := .ty "list") (u := .type "list") rfl B.list (by decide +kernel) rfl) pa_nil)))) (pss_cons (ps_if (PW.pt (pw_or (pt_not (pt_val (pe_callB (isiK (K := K) rfl) rfl B.isinstance (by decide +kernel) (pa_cons (pv 0) (pa_cons (pe_bltn (v := .ty "list") (u := .type "list") rfl B.list (by decide +kernel) rfl) pa_nil))))) (pw_or1 (pt_cmpR op_ne (pe_callB (lenK (K := K) rfl) rfl B.len PySem.boot_len (pa_cons (pv 0) pa_nil)) (pe_callB (lenK (K := K) rfl) rfl B.len PySem.boot_len (pa_cons (pv 1) pa_nil)) (nomark _))))) (pss_one (ps_ret pe_bl)) pss_nil)
  (pss_one (ps_ret (pe_callB (allK (K := K) rfl rfl) rfl B.all (by decide +kernel) (pa_cons (pe_lc (own := [("k", 2)]) (g := gName 2) (tt := tYes) rfl sc_law_same.nd (pi_range1 rfl B.range (pa_cons (pe_callB (lenK (K := K) rfl) rfl B.len PySem.boot_len (pa_cons (pv 1) pa_nil)) pa_nil)) (blkOk_by (N := n_law_same) (sc := defScope s_law_same) (by decide +kernel)) (fun _ _ _ _ _ => (pg_name (i := 2) sc_law_same.nd rfl (.inl rfl))) (fun _ _ _ _ _ => pts_nil) (fun _ _ _ _ _ => (pe_h h_law_same hr pass0 (pa_cons (pe_ix (ixQ (K := K) rfl) (pv 0) (pv 2) (fun _ _ => rfl)) (pa_cons (pe_ix (ixQ (K := K) rfl) (pv 1) (pv 2) (fun _ _ => rfl)) pa_nil))))) pa_nil))))) pss_nil)
  (pss_cons (ps_if (pt_cmpR op_isN (pv 1) pe_non (nomark _)) (pss_one (ps_ret (pe_cmpR op_isN (pv 0) pe_non (nomark _)))) pss_nil)
  (pss_cons (ps_if (pt_val (pe_callB (isiK (K := K) rfl) rfl B.isinstance (by decide +kernel) (pa_cons (pv 1) (pa_cons (pe_bltn (v := .ty "bool") (u := .type "bool") rfl B.bool (by decide +kernel) rfl) pa_nil)))) (pss_one (ps_ret (pe_and (pe_callB (isiK (K := K) rfl) rfl B.isinstance (by decide +kernel) (pa_cons (pv 0) (pa_cons (pe_bltn (v := .ty "bool") (u := .type "bool") rfl B.bool (by decide +kernel) rfl) pa_nil))) (pe_one (pe_cmpR op_eq (pv 0) (pv 1) (nomark _)))))) pss_nil)
  (pss_cons (ps_if (pt_val (pe_callB (isiK (K := K) rfl) rfl B.isinstance (by decide +kernel) (pa_cons (pv 1) (pa_cons (pe_bltn (v := .ty "str") (u := .type "str") rfl B.str (by decide +kernel) rfl) pa_nil)))) (pss_one (ps_ret (pe_and (pe_callB (isiK (K := K) rfl) rfl B.isinstance (by decide +kernel) (pa_cons (pv 0) (pa_cons (pe_bltn (v := .ty "str") (u := .type "str") rfl B.str (by decide +kernel) rfl) pa_nil))) (pe_one (pe_cmpR op_eq (pv 0) (pv 1) (nomark _)))))) pss_nil)
  (pss_one (ps_ret (pe_and (pe_h h_law_is_integer hr pass0 (pa_cons (pv 0) pa_nil)) (pe_one (pe_cmpR op_eq (pv 0) (pv 1) (nomark _))))))))))), ?_⟩
      have tx := Dp.ty hx
      have ty := Dp.ty hy
      refine ⟨_, rfl, _, _, _, _, _, rfl, .ty _, ty, kt_tuple d, _, rfl, ?_⟩
      cases hy with
      | non =>
        cases hx
        refine iteF ⟨_, rfl, _, _, _, _, _, rfl, .ty _, ty, kt_list _, _, rfl, iteF ?_⟩
        exact ⟨_, rfl, rfl, _, rfl, iteT ⟨_, rfl, rfl, q _ (Same.refl _)⟩⟩
      | bl b =>
        cases hx
        refine iteF ⟨_, rfl, _, _, _, _, _, rfl, .ty _, ty, kt_list _, _, rfl, iteF ?_⟩
        refine ⟨_, rfl, rfl, _, rfl, iteF ?_⟩
        refine ⟨_, rfl, _, _, _, _, _, rfl, .ty _, ty, kt_bool _, _, rfl, iteT ?_⟩
        refine ⟨_, rfl, _, _, _, _, _, rfl, .ty _, ty, kt_bool _, _, rfl, iteT ?_⟩
        refine ⟨_, rfl, _, rfl, by cases b <;> rfl, ?_⟩
        exact bl_t rfl (q _ (Same.refl _))
      | int i =>
        cases hx
        refine iteF ⟨_, rfl, _, _, _, _, _, rfl, .ty _, ty, kt_list _, _, rfl, iteF ?_⟩
        refine ⟨_, rfl, rfl, _, rfl, iteF ?_⟩
        refine ⟨_, rfl, _, _, _, _, _, rfl, .ty _, ty, kt_bool _, _, rfl, iteF ?_⟩
        refine ⟨_, rfl, _, _, _, _, _, rfl, .ty _, ty, kt_str _, _, rfl, iteF ?_⟩
        refine ⟨_, rfl, _, _, rfl, .int i, _, rfl, iteT ?_⟩
        refine ⟨_, rfl, _, rfl, rfl, ?_⟩
        exact bl_t rfl (q _ (Same.refl _))
      | str z =>
        cases hx
        refine iteF ⟨_, rfl, _, _, _, _, _, rfl, .ty _, ty, kt_list _, _, rfl, iteF ?_⟩
        refine ⟨_, rfl, rfl, _, rfl, iteF ?_⟩
        refine ⟨_, rfl, _, _, _, _, _, rfl, .ty _, ty, kt_bool _, _, rfl, iteF ?_⟩
        refine ⟨_, rfl, _, _, _, _, _, rfl, .ty _, ty, kt_str _, _, rfl, iteT ?_⟩
        refine ⟨_, rfl, _, _, _, _, _, rfl, .ty _, ty, kt_str _, _, rfl, iteT ?_⟩
        refine ⟨_, rfl, _, rfl, rfl, ?_⟩
        exact bl_t rfl (q _ (Same.refl _))
      | @lst b ys ds h2 t2 =>
        cases hx with
        | @lst a xs _ h1 t1 =>
        have hz : ds.length ≤ 100000 := hn.1
        have l1 := DpAll.len t1
        have l2 := DpAll.len t2
        refine iteF ⟨_, rfl, _, _, _, _, _, rfl, .ty _, ty, kt_list _, _, rfl, iteT ?_⟩
        refine ⟨_, rfl, _, _, _, _, _, rfl, .ty _, tx, kt_list _, _, rfl, iteF ?_⟩
        refine ⟨_, rfl, _, xs.length, rfl, .inl ⟨_, h1, rfl⟩, _, rfl, _, ys.length, rfl, .inl ⟨_, h2, rfl⟩, rfl, _, rfl, ?_⟩
        refine ifN (fun e => absurd (by rw [l1, l2]) e) (fun _ => ?_)
        refine ⟨_, rfl, _, ys.length, rfl, .inl ⟨_, h2, rfl⟩, _, rfl, by omega, by omega, fun L nL => ?_⟩
        refine lc_range (lo := 0) (n := ys.length) (fun i H' => Same H H' ∧ H' L = some (.lst ((List.replicate i true).map V.bl))) ⟨same_upd nL, upd_same⟩ ?_ ?_
        · rintro i H' hi ⟨sm, hl⟩
          refine ⟨rfl, yes_ ?_⟩
          have hi2 : i < ds.length := by omega
          obtain ⟨v1, e1, d1⟩ := DpAll.get t1 hi2
          obtain ⟨v2, e2, d2⟩ := DpAll.get t2 hi2
          refine ⟨_, rfl, _, rfl, .inl ⟨_, _, _, v1, rfl, rfl, sm.seq h1, by rw [Int.zero_add]; exact atI_nat e1, ?_⟩⟩
          refine ⟨_, rfl, _, rfl, .inl ⟨_, _, _, v2, rfl, rfl, sm.seq h2, by rw [Int.zero_add]; exact atI_nat e2, ?_⟩⟩
          refine ⟨_, _, _, rfl, Dp.same sm d1, Dp.same sm d2, hn.2 _ (List.getElem_mem hi2), fun H2 sm2 => ?_⟩
          refine ⟨_, sm2 _ _ hl, size_lt (by rw [len_rep]; omega), same_mut (sm.trans sm2) nL, ?_⟩
          rw [upd_same, List.replicate_succ', List.map_append]; rfl
        · rintro H' ⟨sm, hl⟩
          refine ⟨_, _, rfl, SqL.of hl, ?_⟩
          rw [all_rep]
          exact q _ sm
      | @tup b ys ds h2 t2 =>
        cases hx with
        | @tup a xs _ h1 t1 =>
        have hz : ds.length ≤ 100000 := hn.1
        have l1 := DpAll.len t1
        have l2 := DpAll.len t2
        refine iteT ?_
        refine ⟨_, rfl, _, _, _, _, _, rfl, .ty _, tx, kt_tuple _, _, rfl, iteF ?_⟩
        refine ⟨_, rfl, _, xs.length, rfl, .inr ⟨_, h1, rfl⟩, _, rfl, _, ys.length, rfl, .inr ⟨_, h2, rfl⟩, rfl, _, rfl, ?_⟩
        refine ifN (fun e => absurd (by rw [l1, l2]) e) (fun _ => ?_)
        refine ⟨_, rfl, _, ys.length, rfl, .inr ⟨_, h2, rfl⟩, _, rfl, by omega, by omega, fun L nL => ?_⟩
        refine lc_range (lo := 0) (n := ys.length) (fun i H' => Same H H' ∧ H' L = some (.lst ((List.replicate i true).map V.bl))) ⟨same_upd nL, upd_same⟩ ?_ ?_
        · rintro i H' hi ⟨sm, hl⟩
          refine ⟨rfl, yes_ ?_⟩
          have hi2 : i < ds.length := by omega
          obtain ⟨v1, e1, d1⟩ := DpAll.get t1 hi2
          obtain ⟨v2, e2, d2⟩ := DpAll.get t2 hi2
          refine ⟨_, rfl, _, rfl, .inr (.inl ⟨_, _, _, v1, rfl, rfl, Same.seqT sm h1, by rw [Int.zero_add]; exact atI_nat e1, ?_⟩)⟩
          refine ⟨_, rfl, _, rfl, .inr (.inl ⟨_, _, _, v2, rfl, rfl, Same.seqT sm h2, by rw [Int.zero_add]; exact atI_nat e2, ?_⟩)⟩
          refine ⟨_, _, _, rfl, Dp.same sm d1, Dp.same sm d2, hn.2 _ (List.getElem_mem hi2), fun H2 sm2 => ?_⟩
          refine ⟨_, sm2 _ _ hl, size_lt (by rw [len_rep]; omega), same_mut (sm.trans sm2) nL, ?_⟩
          rw [upd_same, List.replicate_succ', List.map_append]; rfl
        · rintro H' ⟨sm, hl⟩
          refine ⟨_, _, rfl, SqL.of hl, ?_⟩
          rw [all_rep]
          exact q _ sm
end
end G3

set_option Elab.async false
set_option linter.all false
set_option maxRecDepth 100000
set_option maxHeartbeats 1000000
namespace G3
open PySem PySem.Spec PyProof.Rows L2
abbrev nV (n : Nat) : V := .int (n : Int)
theorem erase_perm {α : Type} : ∀ {ls : List α} {k : Nat} (h : k < ls.length), (ls[k] :: ls.eraseIdx k).Perm ls
  | [], _, h => absurd h (by simp)
  | x :: r, 0, _ => List.Perm.refl _
  | x :: r, k + 1, h => by
    have ih := erase_perm (ls := r) (k := k) (by simpa using h)
    have hk : k < r.length := by simpa using h
    show (r[k] :: x :: r.eraseIdx k).Perm (x :: r)
    exact (List.Perm.swap _ _ _).trans (ih.cons x)
theorem map_erase {α β : Type} (f : α → β) : ∀ (ls : List α) (k : Nat), (ls.map f).eraseIdx k = (ls.eraseIdx k).map f
  | [], _ => rfl
  | _ :: _, 0 => rfl
  | x :: r, k + 1 => by
    show f x :: (r.map f).eraseIdx k = f x :: (r.eraseIdx k).map f
    rw [map_erase f r k]
theorem rgV_nat (m : Int) : rgV 0 m = (List.range m.toNat).map nV := by
  unfold rgV
  rw [Int.sub_zero]
  apply List.map_congr_left
  intro i _
  rw [Int.zero_add]
section
variable {P : Program} {w : World} {K : PySem.W.Frag} {mg : Str → Option Value} {base : Heap}
abbrev n_law_order : List Str := ["pool", "many", "left", "found", "k"]
abbrev p_law_order : List Str := ["pool", "many"]
theorem sc_law_order : FnScope n_law_order p_law_order (defScope s_law_order) := ⟨rfl, rfl, rfl, by decide +kernel, rfl, by decide +kernel, by decide +kernel⟩
def spOrder : Sp := fun vs H Q _ => ∃ (a : Addr) (m : Int), vs = [.ref a, .int m] ∧ PoolAt H a ∧ 0 ≤ m ∧ m ≤ 10000 ∧ ∀ (H' : Hp) (p : Addr) (ns : List Nat), Same H H' → H' p = some (.tup (ns.map nV)) → ns.Perm (List.range m.toNat) → Q (.ref p) H'
theorem ok_order (D : DefAt K mg "_law_order" "_law_order" s_law_order) (B : Bt mg) (h_law_take : Has P w K mg base CX0 2 "_law_take" p_law_take spTake) : Has P w K mg base CX0 3 "_law_order" p_law_order spOrder := by
  refine has_of D sc_law_order (fun _ _ _ _ _ _ us hl => match us, hl with | [_, _], _ => rfl) (fun vs H Q E h => ?_) (fun f cdv A outer s H vs Q E hr h => ?_)
  · obtain ⟨a, m, rfl, _⟩ := h
    rfl
  · obtain ⟨a, m, rfl, hp, h0, h1, q⟩ := h
    refine ⟨_, (pss_cons (ps_set (i := 2) sc_law_order.nd rfl (.inl rfl) (pe_listRg rfl rfl B.list (prg_1 rfl B.range (pv 1))))
  (pss_cons (ps_set (i := 3) sc_law_order.nd rfl (.inl rfl) (pe_tup pa_nil))
  (pss_cons (ps_for PassesOwn.never rfl (pi_range1 rfl B.range (pa_cons (pv 1) pa_nil)) (pg_name (i := 4) sc_law_order.nd rfl (.inl rfl)) (pss_one (ps_set (i := 3) sc_law_order.nd rfl (.inl rfl) (pe_op (catK (K := K) rfl) (pv 3) (pe_tup (pa_cons (pe_bm PySem.F.plainAttrs_list PySem.F.slot_list_pop PySem.F.type_list_pop mt_popAt (pv 2) (pa_cons (pe_h h_law_take hr pass0 (pa_cons (pv 0) (pa_cons (pe_callB (lenK (K := K) rfl) rfl B.len PySem.boot_len (pa_cons (pv 2) pa_nil)) pa_nil))) pa_nil)) pa_nil))))))
  (pss_one (ps_ret (pv 3)))))), ?_⟩
    refine ⟨_, rfl, m, rfl, .of_le (by decide) (by omega) (by decide) h0, fun l nl => ?_⟩
    rw [rgV_nat]
    refine ⟨Nat.zero_le _, fun t nt => ?_⟩
    refine ⟨_, rfl, m, rfl, by omega, by omega, for_range (lo := 0) (n := m.toNat) (fun i σ H' => ∃ (fp : Addr) (ls fs : List Nat) (y : Option V), σ = [some (.ref a), some (.int m), some (.ref l), some (.ref fp), y] ∧ Same H H' ∧ H' l = some (.lst (ls.map nV)) ∧ H' fp = some (.tup (fs.map nV)) ∧ fs.length = i ∧ (fs ++ ls).Perm (List.range m.toNat)) ?_ ?_ ?_⟩
    · refine ⟨t, List.range m.toNat, [], none, rfl, (same_upd nl).trans (same_upd nt), ?_, upd_same, rfl, List.Perm.refl _⟩
      rw [upd_ne, upd_same]
      intro e
      rw [← e, upd_same] at nt
      cases nt
    · rintro i σ H' hi ⟨fp, ls, fs, y, rfl, sm, hl, hf, ei, pm⟩
      have el : fs.length + ls.length = m.toNat := by
        have := pm.length_eq
        rwa [List.length_append, List.length_range] at this
      have hl0 : 0 < ls.length := by omega
      have nlH : H l = none := nl
      refine ⟨_, rfl, _, rfl, .inl ⟨rfl, _, SqL.of hl⟩, _, rfl, _, rfl, _, ls.length, rfl, .inl ⟨_, SqL.of hl, by rw [List.length_map]⟩, ?_⟩
      refine ⟨a, _, rfl, hp.same sm, by omega, by omega, fun r r0 r1 => ?_⟩
      have hk : r.toNat < ls.length := by omega
      refine ⟨l, _, r, r.toNat, nV ls[r.toNat], rfl, rfl, hl, by omega, by omega, ?_, getMap hk, ?_⟩
      · rw [List.length_map]; exact seqIndex_of r0 (by omega)
      refine ⟨by show 1 ≤ sizeLine; decide, fun T nT => ?_⟩
      have nfl : fp ≠ l := ne_of hf hl (fun e => by cases e)
      have nlT : l ≠ T := fun e => by rw [← e, upd_same] at nT; cases nT
      have nfT : fp ≠ T := fun e => by rw [← e, upd_ne nfl, hf] at nT; cases nT
      have hT : H' T = none := by rwa [upd_ne (Ne.symm nlT)] at nT
      have hf1 : (upd (upd H' l (.lst ((ls.map nV).eraseIdx r.toNat))) T (.tup [nV ls[r.toNat]])) fp = some (.tup (fs.map nV)) := by rw [upd_ne nfT, upd_ne nfl]; exact hf
      have hT1 : (upd (upd H' l (.lst ((ls.map nV).eraseIdx r.toNat))) T (.tup [nV ls[r.toNat]])) T = some (.tup [nV ls[r.toNat]]) := upd_same
      have hl1 : (upd (upd H' l (.lst ((ls.map nV).eraseIdx r.toNat))) T (.tup [nV ls[r.toNat]])) l = some (.lst ((ls.eraseIdx r.toNat).map nV)) := by rw [upd_ne nlT, upd_same, map_erase]
      have s1 : Same H (upd (upd H' l (.lst ((ls.map nV).eraseIdx r.toNat))) T (.tup [nV ls[r.toNat]])) := (same_mut sm nlH).trans (same_upd nT)
      have pm' : (fs ++ [ls[r.toNat]] ++ ls.eraseIdx r.toNat).Perm (List.range m.toNat) := by
        rw [List.append_assoc]
        exact ((erase_perm hk).append_left fs).trans pm
      refine ⟨fp, T, _, _, rfl, rfl, SqT.of hf1, SqT.of hT1, size_le (by rw [List.length_map]; show fs.length + 1 ≤ 100000; omega), fun e0 => ?_, fun _ e => (nomatch e), fun _ _ p np => ?_⟩
      · have e0 : fs = [] := List.map_eq_nil_iff.mp e0
        subst e0
        exact ⟨T, _, [ls[r.toNat]], _, rfl, s1, hl1, hT1, by rw [← ei]; rfl, pm'⟩
      · refine ⟨p, _, fs ++ [ls[r.toNat]], _, rfl, s1.trans (same_upd np), ?_, ?_, by rw [List.length_append, ei]; rfl, pm'⟩
        · rw [upd_ne (ne_of_none hl1 np)]; exact hl1
        · rw [upd_same, List.map_append]; rfl
    · rintro σ H' ⟨fp, ls, fs, y, rfl, sm, hl, hf, ei, pm⟩
      have el : fs.length + ls.length = m.toNat := by
        have := pm.length_eq
        rwa [List.length_append, List.length_range] at this
      have : ls = [] := List.eq_nil_of_length_eq_zero (by omega)
      subst this
      rw [List.append_nil] at pm
      exact ⟨_, rfl, q _ _ _ sm hf pm⟩
end
end G3

set_option Elab.async false
set_option linter.all false
set_option maxRecDepth 100000
set_option maxHeartbeats 1000000
namespace G3
open PySem PySem.Spec PyProof.Rows L2
/-! ## lists of pairs -/
abbrev Pr : Type := Nat × Nat
def Prs (H : Hp) : List V → List Pr → Prop
  | [], [] => True
  | v :: vs, p :: ps => (∃ t, v = .ref t ∧ H t = some (.tup [nV p.1, nV p.2])) ∧ Prs H vs ps
  | _, _ => False
theorem Prs.mono {H H' : Hp} (e : ∀ t a b, H t = some (.tup [nV a, nV b]) → H' t = some (.tup [nV a, nV b])) : ∀ {vs : List V} {ps : List Pr}, Prs H vs ps → Prs H' vs ps
  | [], [], _ => True.intro
  | v :: vs, p :: ps, ⟨⟨t, h1, h2⟩, h⟩ => ⟨⟨t, h1, e _ _ _ h2⟩, Prs.mono e h⟩
  | [], _ :: _, h => h.elim
  | _ :: _, [], h => h.elim
theorem Prs.same {H H' : Hp} (e : Same H H') {vs : List V} {ps : List Pr} (h : Prs H vs ps) : Prs H' vs ps := h.mono fun t a b z => e _ _ z
theorem Prs.mut {H : Hp} {p : Addr} {xs : List V} {o : HO} (hp : H p = some (.lst xs)) {vs : List V} {ps : List Pr} (h : Prs H vs ps) : Prs (upd H p o) vs ps := h.mono fun t a b z => by
  rw [upd_ne (ne_of z hp (fun q => by cases q))]; exact z
theorem Prs.len {H : Hp} : ∀ {vs : List V} {ps : List Pr}, Prs H vs ps → vs.length = ps.length
  | [], [], _ => rfl
  | _ :: _, _ :: _, ⟨_, h⟩ => by rw [List.length_cons, List.length_cons, Prs.len h]
  | [], _ :: _, h => h.elim
  | _ :: _, [], h => h.elim
theorem Prs.app {H : Hp} : ∀ {vs ws : List V} {ps qs : List Pr}, Prs H vs ps → Prs H ws qs → Prs H (vs ++ ws) (ps ++ qs)
  | [], _, [], _, _, k => k
  | _ :: _, _, _ :: _, _, ⟨a, h⟩, k => ⟨a, Prs.app h k⟩
  | [], _, _ :: _, _, h, _ => h.elim
  | _ :: _, _, [], _, h, _ => h.elim
theorem Prs.get {H : Hp} : ∀ {vs : List V} {ps : List Pr} {i : Nat}, Prs H vs ps → (h : i < ps.length) → ∃ t, vs[i]? = some (.ref t) ∧ H t = some (.tup [nV ps[i].1, nV ps[i].2])
  | _ :: _, _ :: _, 0, ⟨⟨t, h1, h2⟩, _⟩, _ => ⟨t, by rw [h1]; rfl, h2⟩
  | _ :: vs, _ :: ps, i + 1, ⟨_, h⟩, hi => by
    obtain ⟨t, e, k⟩ := Prs.get (i := i) h (by simpa using hi)
    exact ⟨t, by simpa using e, k⟩
  | [], [], _, _, h => absurd h (by simp)
  | [], _ :: _, _, h, _ => h.elim
  | _ :: _, [], _, h, _ => h.elim
def PLst (H : Hp) (a : Addr) (ps : List Pr) : Prop := ∃ vs, H a = some (.lst vs) ∧ Prs H vs ps
theorem PLst.same {H H' : Hp} {a : Addr} {ps : List Pr} (e : Same H H') (h : PLst H a ps) : PLst H' a ps := by
  obtain ⟨vs, h1, h2⟩ := h
  exact ⟨vs, e _ _ h1, h2.same e⟩
/-- a new pair behind the list's end -/
theorem PLst.push {H H1 : Hp} {L T : Addr} {ps : List Pr} {a b : Nat} (h : PLst H L ps) (e : Same H H1) (nT : H1 T = none) :
    ∃ vs, (upd H1 T (.tup [nV a, nV b])) L = some (.lst vs) ∧ vs.length = ps.length ∧ PLst (upd (upd H1 T (.tup [nV a, nV b])) L (.lst (vs ++ [.ref T]))) L (ps ++ [(a, b)]) := by
  obtain ⟨vs, h1, h2⟩ := h
  have s1 : Same H1 (upd H1 T (.tup [nV a, nV b])) := same_upd nT
  have hL : (upd H1 T (.tup [nV a, nV b])) L = some (.lst vs) := s1 _ _ (e _ _ h1)
  refine ⟨vs, hL, h2.len, _, upd_same, ?_⟩
  refine Prs.app (Prs.mut hL (h2.same (e.trans s1))) ⟨⟨T, rfl, ?_⟩, True.intro⟩
  rw [upd_ne (ne_of (upd_same (H := H1) (a := T)) hL (fun q => by cases q)), upd_same]
/-- a pair that stands, behind the list's end -/
theorem PLst.push' {H : Hp} {L T : Addr} {ps : List Pr} {a b : Nat} (h : PLst H L ps) (hT : H T = some (.tup [nV a, nV b])) :
    ∃ vs, H L = some (.lst vs) ∧ vs.length = ps.length ∧ PLst (upd H L (.lst (vs ++ [.ref T]))) L (ps ++ [(a, b)]) := by
  obtain ⟨vs, h1, h2⟩ := h
  refine ⟨vs, h1, h2.len, _, upd_same, ?_⟩
  refine Prs.app (Prs.mut h1 h2) ⟨⟨T, rfl, ?_⟩, True.intro⟩
  rw [upd_ne (ne_of hT h1 (fun q => by cases q))]; exact hT

/-! ## edges by which all places are together -/
def Spans (n : Nat) (ps : List Pr) : Prop := ∀ f : Nat → Bool, (∀ e ∈ ps, f e.1 = f e.2) → ∀ i, i < n → f i = f 0
def Edg (n : Nat) (ps : List Pr) : Prop := ∀ e ∈ ps, e.1 ≠ e.2 ∧ e.1 < n ∧ e.2 < n
def Tree (ps : List Pr) : Prop := ∀ (j : Nat) (h : j < ps.length), ps[j].2 = j + 1 ∧ ps[j].1 ≤ j
theorem Tree.nil : Tree [] := fun j h => absurd h (by simp)
theorem Tree.app {ps : List Pr} {a b : Nat} (h : Tree ps) (hb : b = ps.length + 1) (ha : a ≤ ps.length) : Tree (ps ++ [(a, b)]) := fun j hj => by
  by_cases e : j < ps.length
  · rw [List.getElem_append_left e]; exact h j e
  · have ej : j = ps.length := by rw [List.length_append] at hj; simp at hj; omega
    subst ej
    rw [List.getElem_append_right (Nat.le_refl _)]
    simp
    exact ⟨hb, ha⟩
theorem Tree.spans {ps : List Pr} (h : Tree ps) : Spans (ps.length + 1) ps := fun f hf i => by
  induction i using Nat.strongRecOn with
  | _ i ih =>
    intro hi
    cases i with
    | zero => rfl
    | succ j =>
      have hj : j < ps.length := by omega
      obtain ⟨h2, h1⟩ := h j hj
      have e := hf _ (List.getElem_mem hj)
      rw [h2] at e
      rw [← e]
      exact ih _ (by omega) (by omega)
theorem Tree.edg {ps : List Pr} (h : Tree ps) : Edg (ps.length + 1) ps := fun e he => by
  obtain ⟨j, hj, rfl⟩ := List.getElem_of_mem he
  obtain ⟨h2, h1⟩ := h j hj
  omega
theorem Spans.app {n : Nat} {ps qs : List Pr} (h : Spans n ps) : Spans n (ps ++ qs) := fun f hf => h f fun e he => hf e (List.mem_append_left _ he)
theorem Edg.app {n : Nat} {ps qs : List Pr} (h : Edg n ps) (k : Edg n qs) : Edg n (ps ++ qs) := fun e he => (List.mem_append.mp he).elim (h e) (k e)
end G3

set_option Elab.async false
set_option linter.all false
set_option maxRecDepth 100000
set_option maxHeartbeats 2000000
namespace G3
open PySem PySem.Spec PyProof.Rows L2
def allPairs (n : Nat) : List Pr := (List.range n).flatMap fun v => (List.range v).map fun u => (u, v)
theorem allPairs_succ (n : Nat) : allPairs (n + 1) = allPairs n ++ (List.range n).map fun u => (u, n) := by
  unfold allPairs
  rw [List.range_succ, List.flatMap_append]
  simp
theorem mem_allPairs {n : Nat} {e : Pr} : e ∈ allPairs n ↔ e.1 < e.2 ∧ e.2 < n := by
  unfold allPairs
  rw [List.mem_flatMap]
  constructor
  · rintro ⟨v, hv, h⟩
    obtain ⟨u, hu, rfl⟩ := List.mem_map.mp h
    exact ⟨List.mem_range.mp hu, List.mem_range.mp hv⟩
  · rintro ⟨h1, h2⟩
    exact ⟨e.2, List.mem_range.mpr h2, List.mem_map.mpr ⟨e.1, List.mem_range.mpr h1, rfl⟩⟩
theorem allPairs_len2 (n : Nat) : 2 * (allPairs n).length = n * (n - 1) := by
  induction n with
  | zero => rfl
  | succ n ih =>
    rw [allPairs_succ, List.length_append, List.length_map, List.length_range, Nat.mul_add, ih]
    cases n with
    | zero => rfl
    | succ m =>
      show (m + 1) * m + 2 * (m + 1) = (m + 1 + 1) * (m + 1)
      rw [Nat.add_mul (m + 1) 1, Nat.mul_add (m + 1) m 1]
      omega
theorem allPairs_le (n : Nat) : (allPairs n).length ≤ n * n := by
  have := allPairs_len2 n
  have h : n * (n - 1) ≤ n * n := Nat.mul_le_mul_left _ (Nat.sub_le _ _)
  omega
section
variable {P : Program} {w : World} {K : PySem.W.Frag} {mg : Str → Option Value} {base : Heap}
abbrev n_law_all_pairs : List Str := ["n", "found", "v", "u"]
abbrev p_law_all_pairs : List Str := ["n"]
theorem sc_law_all_pairs : FnScope n_law_all_pairs p_law_all_pairs (defScope s_law_all_pairs) := ⟨rfl, rfl, rfl, by decide +kernel, rfl, by decide +kernel, by decide +kernel⟩
def spAllPairs : Sp := fun vs H Q _ => ∃ n : Nat, vs = [nV n] ∧ n ≤ 64 ∧ ∀ (H' : Hp) (p : Addr), Same H H' → H p = none → PLst H' p (allPairs n) → Q (.ref p) H'
theorem ok_all_pairs (D : DefAt K mg "_law_all_pairs" "_law_all_pairs" s_law_all_pairs) (B : Bt mg) : Has P w K mg base CX0 1 "_law_all_pairs" p_law_all_pairs spAllPairs := by
  refine has_of D sc_law_all_pairs (fun _ _ _ _ _ _ us hl => match us, hl with | [_], _ => rfl) (fun vs H Q E h => ?_) (fun f cdv A outer s H vs Q E hr h => ?_)
  · obtain ⟨n, rfl, _⟩ := h
    rfl
  · obtain ⟨n, rfl, hn, q⟩ := h
    refine ⟨_, (pss_cons (ps_set (i := 1) sc_law_all_pairs.nd rfl (.inl rfl) (pe_lst pa_nil))
  (pss_cons (ps_for PassesOwn.never rfl (pi_range1 rfl B.range (pa_cons (pv 0) pa_nil)) (pg_name (i := 2) sc_law_all_pairs.nd rfl (.inr rfl)) (pss_one (ps_set (i := 1) sc_law_all_pairs.nd rfl (.inl rfl) (pe_op op_cat (pv 1) (pe_lc (own := [("u", 3)]) (g := gName 3) (tt := tYes) rfl sc_law_all_pairs.nd (pi_range1 rfl B.range (pa_cons (pv 2) pa_nil)) (blkOk_by (N := n_law_all_pairs) (sc := defScope s_law_all_pairs) (by decide +kernel)) (fun _ _ _ _ _ => (pg_name (i := 3) sc_law_all_pairs.nd rfl (.inl rfl))) (fun _ _ _ _ _ => pts_nil) (fun _ _ _ _ _ => (pe_tup (pa_cons (pv 3) (pa_cons (pv 2) pa_nil)))))))))
  (pss_one (ps_ret (pv 1))))), ?_⟩
    refine ⟨Nat.zero_le _, fun p np => ?_⟩
    refine ⟨_, rfl, _, rfl, by omega, by omega, for_range (lo := 0) (n := n) (fun i σ H' => ∃ (p : Addr) (y : Option V), σ = [some (nV n), some (.ref p), y, none] ∧ Same H H' ∧ H p = none ∧ PLst H' p (allPairs i)) ?_ ?_ ?_⟩
    · exact ⟨p, none, rfl, same_upd np, np, [], upd_same, True.intro⟩
    · rintro i σ H' hi ⟨p, y, rfl, sm, np, pl⟩
      have ei : V.int (0 + (i : Int)) = nV i := by rw [Int.zero_add]
      rw [ei]
      refine ⟨_, rfl, _, rfl, _, rfl, by omega, by omega, fun L nL => ?_⟩
      refine lc_range (lo := 0) (n := i) (fun j H2 => Same H' H2 ∧ PLst H2 L ((List.range j).map fun u => (u, i))) ⟨same_upd nL, [], upd_same, True.intro⟩ ?_ ?_
      · rintro j H2 hj ⟨sm2, pl2⟩
        have ej : V.int (0 + (j : Int)) = nV j := by rw [Int.zero_add]
        rw [ej]
        refine ⟨rfl, yes_ ?_⟩
        refine ⟨_, rfl, _, rfl, by show 2 ≤ sizeLine; decide, fun T nT => ?_⟩
        obtain ⟨vs, h1, h2, h3⟩ := pl2.push (a := j) (b := i) (Same.refl H2) nT
        refine ⟨vs, h1, size_lt (by rw [h2, List.length_map, List.length_range]; omega), same_mut (sm2.trans (same_upd nT)) nL, ?_⟩
        rw [List.range_succ, List.map_append]
        exact h3
      · rintro H2 ⟨sm2, vs2, h1, h2⟩
        obtain ⟨vs, g1, g2⟩ := pl.same sm2
        have l1 := g2.len
        have l2 := h2.len
        have := allPairs_le i
        have h64 : i * i ≤ 64 * 64 := Nat.mul_le_mul (by omega) (by omega)
        rw [List.length_map, List.length_range] at l2
        refine ⟨p, L, _, _, rfl, rfl, g1, h1, size_le (by omega), fun p2 np2 => ?_⟩
        refine ⟨p2, _, rfl, (sm.trans sm2).trans (same_upd np2), (sm.trans sm2).free np2, _, upd_same, ?_⟩
        rw [allPairs_succ]
        exact Prs.same (same_upd np2) (Prs.app g2 h2)
    · rintro σ H' ⟨p, y, rfl, sm, np, pl⟩
      exact ⟨_, rfl, q _ _ sm np pl⟩
end
end G3

set_option Elab.async false
set_option linter.all false
set_option maxRecDepth 100000
set_option maxHeartbeats 2000000
namespace G3
open PySem PySem.Spec PyProof.Rows L2
/-! ## kinds of graphs -/
theorem allPairs_spans {n : Nat} : Spans n (allPairs n) := fun f hf i hi => by
  by_cases h : i = 0
  · rw [h]
  · exact (hf (0, i) (mem_allPairs.mpr ⟨Nat.pos_of_ne_zero h, hi⟩)).symm
theorem allPairs_edg {n : Nat} : Edg n (allPairs n) := fun e he => by
  obtain ⟨h1, h2⟩ := mem_allPairs.mp he
  omega
def bip (n h : Nat) : List Pr := (List.range (h * (n - h))).map fun k => (k / (n - h), h + k % (n - h))
theorem bip_mem {n h u v : Nat} (hn : h < n) (hu : u < h) (h1 : h ≤ v) (h2 : v < n) : (u, v) ∈ bip n h := by
  refine List.mem_map.mpr ⟨u * (n - h) + (v - h), List.mem_range.mpr ?_, ?_⟩
  · have : (u + 1) * (n - h) ≤ h * (n - h) := Nat.mul_le_mul_right _ hu
    rw [Nat.add_mul, Nat.one_mul] at this
    omega
  · have p : 0 < n - h := by omega
    have q : v - h < n - h := by omega
    rw [Nat.mul_comm u, Nat.mul_add_div p, Nat.div_eq_of_lt q, Nat.mul_add_mod, Nat.mod_eq_of_lt q]
    simp
    omega
theorem bip_edg {n h : Nat} (hn : h < n) : Edg n (bip n h) := fun e he => by
  obtain ⟨k, hk, rfl⟩ := List.mem_map.mp he
  have hk := List.mem_range.mp hk
  have p : 0 < n - h := by omega
  have h1 : k / (n - h) < h := (Nat.div_lt_iff_lt_mul p).mpr hk
  have h2 : k % (n - h) < n - h := Nat.mod_lt _ p
  show k / (n - h) ≠ h + k % (n - h) ∧ k / (n - h) < n ∧ h + k % (n - h) < n
  omega
theorem bip_spans {n h : Nat} (h0 : 0 < h) (hn : h < n) : Spans n (bip n h) := fun f hf i hi => by
  have a : ∀ v, h ≤ v → v < n → f v = f 0 := fun v h1 h2 => (hf _ (bip_mem hn h0 h1 h2)).symm
  by_cases c : i < h
  · rw [hf _ (bip_mem hn c (Nat.le_refl h) hn)]
    exact a h (Nat.le_refl h) hn
  · exact a i (by omega) hi
theorem bip_len {n h : Nat} : (bip n h).length = h * (n - h) := by
  unfold bip
  rw [List.length_map, List.length_range]
theorem bip_get {n h i : Nat} (hi : i < h * (n - h)) : (bip n h)[i]? = some (i / (n - h), h + i % (n - h)) := by
  unfold bip
  rw [List.getElem?_map, List.getElem?_range hi]; rfl
/-- an edge (min, max) after places are called otherwise -/
def relabel (o : List Nat) (e : Pr) : Pr := (min (o.getD e.1 0) (o.getD e.2 0), max (o.getD e.1 0) (o.getD e.2 0))
def Good (n : Nat) (es : List Pr) : Prop := (∀ e ∈ es, e.1 < e.2 ∧ e.2 < n) ∧ Spans n es
theorem relabel_good {n : Nat} {o : List Nat} {ps : List Pr} (hn : 0 < n) (ho : o.Perm (List.range n)) (h1 : Edg n ps) (h2 : Spans n ps) : Good n (ps.map (relabel o)) := by
  have hl : o.length = n := by rw [ho.length_eq, List.length_range]
  have hnd : o.Nodup := ho.nodup_iff.mpr List.nodup_range
  have lt : ∀ i, i < n → o.getD i 0 < n := fun i hi => by
    have hi' : i < o.length := by omega
    rw [List.getD_eq_getElem?_getD, List.getElem?_eq_getElem hi']
    exact List.mem_range.mp (ho.mem_iff.mp (List.getElem_mem hi'))
  have inj : ∀ i j, i < n → j < n → o.getD i 0 = o.getD j 0 → i = j := fun i j hi hj e => by
    have hi' : i < o.length := by omega
    have hj' : j < o.length := by omega
    rw [List.getD_eq_getElem?_getD, List.getElem?_eq_getElem hi', List.getD_eq_getElem?_getD, List.getElem?_eq_getElem hj'] at e
    exact (List.getElem_inj hnd).mp e
  constructor
  · intro e he
    obtain ⟨p, hp, rfl⟩ := List.mem_map.mp he
    obtain ⟨k1, k2, k3⟩ := h1 p hp
    have := lt _ k2
    have := lt _ k3
    have : o.getD p.1 0 ≠ o.getD p.2 0 := fun e => k1 (inj _ _ k2 k3 e)
    show min _ _ < max _ _ ∧ max _ _ < n
    omega
  · intro f hf
    have key : ∀ i, i < n → f (o.getD i 0) = f (o.getD 0 0) := h2 (fun i => f (o.getD i 0)) fun p hp => by
      have e := hf _ (List.mem_map.mpr ⟨p, hp, rfl⟩)
      have e : f (min (o.getD p.1 0) (o.getD p.2 0)) = f (max (o.getD p.1 0) (o.getD p.2 0)) := e
      show f (o.getD p.1 0) = f (o.getD p.2 0)
      by_cases c : o.getD p.1 0 ≤ o.getD p.2 0
      · rwa [Nat.min_eq_left c, Nat.max_eq_right c] at e
      · have c : o.getD p.2 0 ≤ o.getD p.1 0 := by omega
        rw [Nat.min_eq_right c, Nat.max_eq_left c] at e
        exact e.symm
    have sur : ∀ v, v < n → ∃ i, i < n ∧ o.getD i 0 = v := fun v hv => by
      have hm : v ∈ o := ho.mem_iff.mpr (List.mem_range.mpr hv)
      obtain ⟨i, hi, e⟩ := List.getElem_of_mem hm
      refine ⟨i, by omega, ?_⟩
      rw [List.getD_eq_getElem?_getD, List.getElem?_eq_getElem hi]
      exact e
    intro v hv
    obtain ⟨i, hi, rfl⟩ := sur v hv
    obtain ⟨j, hj, e0⟩ := sur 0 hn
    have kj := key j hj
    rw [e0] at kj
    exact (key i hi).trans kj.symm
theorem Good.perm {n : Nat} {es fs : List Pr} (h : Good n es) (hp : fs.Perm es) : Good n fs :=
  ⟨fun e he => h.1 e (hp.mem_iff.mp he), fun f hf => h.2 f fun e he => hf e (hp.mem_iff.mpr he)⟩
/-- a row read in the order of a permutation -/
def pick (es : List Pr) (o : List Nat) : List Pr := o.map fun k => es.getD k (0, 0)
theorem pick_perm {es : List Pr} {o : List Nat} (ho : o.Perm (List.range es.length)) : (pick es o).Perm es := by
  refine (ho.map _).trans ?_
  have e : ((List.range es.length).map fun k => es.getD k (0, 0)) = es := by
    apply List.ext_getElem
    · rw [List.length_map, List.length_range]
    · intro i h1 h2
      rw [List.getElem_map, List.getElem_range, List.getD_eq_getElem?_getD, List.getElem?_eq_getElem h2]
      rfl
  rw [e]

def TreeAt (H0 : Hp) (L : Addr) (i : Nat) (H2 : Hp) : Prop := Same H0 H2 ∧ ∃ ps, PLst H2 L ps ∧ Tree ps ∧ ps.length = i
theorem treeAt_nil {H0 : Hp} {L : Addr} (nL : H0 L = none) : TreeAt H0 L 0 (upd H0 L (.lst [])) := ⟨same_upd nL, [], ⟨[], upd_same, True.intro⟩, Tree.nil, rfl⟩
theorem tree_push {H0 H2 : Hp} {L T : Addr} {i x : Nat} {v : V} (nL : H0 L = none) (h : TreeAt H0 L i H2) (nT : H2 T = none) (hv : v = nV x) (hx : x ≤ i) (hi : i < 1000) :
    ∃ acc, (upd H2 T (.tup [v, nV (i + 1)])) L = some (.lst acc) ∧ acc.length < sizeLine ∧ TreeAt H0 L (i + 1) (upd (upd H2 T (.tup [v, nV (i + 1)])) L (.lst (acc ++ [.ref T]))) := by
  subst hv
  obtain ⟨sm, ps, pl, tr, el⟩ := h
  obtain ⟨vs, h1, h2, h3⟩ := pl.push (a := x) (b := i + 1) (Same.refl H2) nT
  refine ⟨vs, h1, size_lt (by omega), same_mut (sm.trans (same_upd nT)) nL, _, h3, tr.app (by omega) (by omega), by rw [List.length_append, el]; rfl⟩
theorem PLst.pushV {H H1 : Hp} {L T : Addr} {ps : List Pr} {a b : Nat} {v u : V} (h : PLst H L ps) (e : Same H H1) (nT : H1 T = none) (hv : v = nV a) (hu : u = nV b) :
    ∃ vs, (upd H1 T (.tup [v, u])) L = some (.lst vs) ∧ vs.length = ps.length ∧ PLst (upd (upd H1 T (.tup [v, u])) L (.lst (vs ++ [.ref T]))) L (ps ++ [(a, b)]) := by
  subst hv; subst hu
  exact h.push e nT
theorem mod_other {n x y : Nat} (hx : x < n) (hy : y + 1 < n) : (x + 1 + y) % n ≠ x ∧ (x + 1 + y) % n < n := by
  refine ⟨?_, Nat.mod_lt _ (by omega)⟩
  by_cases h : x + 1 + y < n
  · rw [Nat.mod_eq_of_lt h]; omega
  · rw [Nat.mod_eq_sub_mod (by omega), Nat.mod_eq_of_lt (by omega)]; omega
theorem TreeAt.same {H0 H2 H3 : Hp} {L : Addr} {i : Nat} (t : TreeAt H0 L i H2) (e : Same H2 H3) : TreeAt H0 L i H3 := by
  obtain ⟨sm, ps, pl, r⟩ := t
  exact ⟨sm.trans e, ps, pl.same e, r⟩
theorem PLst.size {H : Hp} {a : Addr} {ps : List Pr} (h : PLst H a ps) : ∃ vs, H a = some (.lst vs) ∧ vs.length = ps.length := by
  obtain ⟨vs, h1, h2⟩ := h
  exact ⟨vs, h1, h2.len⟩
section
variable {P : Program} {w : World} {K : PySem.W.Frag} {mg : Str → Option Value} {base : Heap}
abbrev n_law_graph : List Str := ["pool", "most", "genus", "n", "kind", "more", "pairs", "half", "first", "turn", "one", "other", "order", "edges", "k", "u", "v"]
abbrev p_law_graph : List Str := ["pool", "most", "genus"]
theorem sc_law_graph : FnScope n_law_graph p_law_graph (defScope s_law_graph) := ⟨rfl, rfl, rfl, by decide +kernel, rfl, by decide +kernel, by decide +kernel⟩
/-- a graph drawn: 1 to most places, edges by which all are together, of a genus of at most a number -/
def spGraph : Sp := fun vs H Q _ => ∃ (a : Addr) (most genus : Int), vs = [.ref a, .int most, .int genus] ∧ PoolAt H a ∧ 1 ≤ most ∧ most ≤ 64 ∧ 0 ≤ genus ∧ genus ≤ 337 ∧
  ∀ (H' : Hp) (t l : Addr) (n : Nat) (es : List Pr), Same H H' → H' t = some (.tup [nV n, .ref l]) → H l = none → PLst H' l es → 1 ≤ n → (n : Int) ≤ most → Good n es → es.length + 1 ≤ n + genus → Q (.ref t) H'
/-- what stands behind the choice of a kind -/
def MidG (H : Hp) (a : Addr) (most genus kind : Int) (n : Nat) (σ : L2.St) (H' : Hp) : Prop := ∃ (pp : Addr) (mr : Int) (ps : List Pr) (yh : Option V),
  σ = [some (.ref a), some (.int most), some (.int genus), some (nV n), some (.int kind), some (.int mr), some (.ref pp), yh, none, none, none, none, none, none, none, none, none] ∧
  Same H H' ∧ H pp = none ∧ PLst H' pp ps ∧ 0 ≤ mr ∧ (ps.length : Int) + mr + 1 ≤ n + genus ∧ 1 ≤ ps.length ∧ Edg n ps ∧ Spans n ps
theorem midG_tree {H0 H H1 : Hp} {L a : Addr} {n : Nat} {most genus kind mr : Int} {yh : Option V} (t : TreeAt H L (n - 1) H1) (sm0 : Same H0 H) (nL : H L = none) (hn : 2 ≤ n) (x0 : 0 ≤ mr) (x1 : mr ≤ genus) :
    MidG H0 a most genus kind n [some (.ref a), some (.int most), some (.int genus), some (nV n), some (.int kind), some (.int mr), some (.ref L), yh, none, none, none, none, none, none, none, none, none] H1 := by
  obtain ⟨sm, ps, pl, tr, el⟩ := t
  have e : ps.length + 1 = n := by omega
  exact ⟨L, mr, ps, yh, rfl, sm0.trans sm, sm0.free nL, pl, x0, by omega, by omega, e ▸ tr.edg, e ▸ tr.spans⟩
theorem ok_graph (D : DefAt K mg "_law_graph" "_law_graph" s_law_graph) (B : Bt mg) (h_law_take : Has P w K mg base CX0 2 "_law_take" p_law_take spTake) (h_law_pick : Has P w K mg base CX0 3 "_law_pick" p_law_pick (spPick K))
    (h_law_order : Has P w K mg base CX0 3 "_law_order" p_law_order spOrder) (h_law_all_pairs : Has P w K mg base CX0 1 "_law_all_pairs" p_law_all_pairs spAllPairs) : Has P w K mg base CX0 4 "_law_graph" p_law_graph spGraph := by
  refine has_of D sc_law_graph (fun _ _ _ _ _ _ us hl => match us, hl with | [_, _, _], _ => rfl) (fun vs H Q E h => ?_) (fun f cdv A outer s H vs Q E hr h => ?_)
  · obtain ⟨a, most, genus, rfl, _⟩ := h
    rfl
  · obtain ⟨a, most, genus, rfl, hp, m1, m2, g1, g2, q⟩ := h
    refine ⟨_, (Evl.pss_cut (ps_set (i := 3) sc_law_graph.nd rfl (.inr rfl) (pe_op op_add pe_int (pe_h h_law_take hr pass0 (pa_cons (pv 0) (pa_cons (pv 1) pa_nil)))))
  (pss_cons (ps_set (i := 4) sc_law_graph.nd rfl (.inl rfl) (pe_h h_law_take hr pass0 (pa_cons (pv 0) (pa_cons pe_int pa_nil))))
  (pss_cons (ps_set (i := 5) sc_law_graph.nd rfl (.inl rfl) (pe_h h_law_take hr pass0 (pa_cons (pv 0) (pa_cons (pe_op op_add (pv 2) pe_int) pa_nil))))
  (pss_cons (ps_if (pt_cmpR op_eq (pv 3) pe_int (nomark _)) (pss_one (ps_ret (pe_tup (pa_cons pe_int (pa_cons (pe_lst pa_nil) pa_nil))))) pss_nil)
  (pss_cons (ps_setLc (i := 6) (own := [("k", 14)]) (g := gName 14) (tt := tYes) rfl sc_law_graph.nd rfl rfl (sw_true rfl rfl rfl (by decide +kernel)) (pi_range2 rfl B.range (pa_cons pe_int (pa_cons (pv 3) pa_nil))) (blkOk_by (N := n_law_graph) (sc := defScope s_law_graph) (by decide +kernel)) (fun _ _ _ _ _ => (pg_name (i := 14) sc_law_graph.nd rfl (.inl rfl))) (fun _ _ _ _ _ => pts_nil) (fun _ _ _ _ _ => (pe_tup (pa_cons (pe_h h_law_take hr pass0 (pa_cons (pv 0) (pa_cons (pv 14) pa_nil))) (pa_cons (pv 14) pa_nil)))))
  (Evl.pss_cut (ps_if (pt_cmpR op_eq (pv 4) pe_int (nomark _)) (pss_one (ps_setLc (i := 6) (own := [("k", 14)]) (g := gName 14) (tt := tYes) rfl sc_law_graph.nd rfl rfl (sw_true rfl rfl rfl (by decide +kernel)) (pi_range2 rfl B.range (pa_cons pe_int (pa_cons (pv 3) pa_nil))) (blkOk_by (N := n_law_graph) (sc := defScope s_law_graph) (by decide +kernel)) (fun _ _ _ _ _ => (pg_name (i := 14) sc_law_graph.nd rfl (.inl rfl))) (fun _ _ _ _ _ => pts_nil) (fun _ _ _ _ _ => (pe_tup (pa_cons (pe_op op_sub (pv 14) pe_int) (pa_cons (pv 14) pa_nil)))))) (pss_one (ps_if (pt_cmpR op_eq (pv 4) pe_int (nomark _)) (pss_one (ps_setLc (i := 6) (own := [("k", 14)]) (g := gName 14) (tt := tYes) rfl sc_law_graph.nd rfl rfl (sw_true rfl rfl rfl (by decide +kernel)) (pi_range2 rfl B.range (pa_cons pe_int (pa_cons (pv 3) pa_nil))) (blkOk_by (N := n_law_graph) (sc := defScope s_law_graph) (by decide +kernel)) (fun _ _ _ _ _ => (pg_name (i := 14) sc_law_graph.nd rfl (.inl rfl))) (fun _ _ _ _ _ => pts_nil) (fun _ _ _ _ _ => (pe_tup (pa_cons pe_int (pa_cons (pv 14) pa_nil)))))) (pss_one (ps_if (PW.pt (pw_and (pt_cmpR op_eq (pv 4) pe_int (nomark _)) (pw_and1 (pt_cmpR op_ge (pv 2) pe_int (nomark _))))) (pss_cons (ps_set (i := 6) sc_law_graph.nd rfl (.inl rfl) (pe_op op_cat (pe_lc (own := [("k", 14)]) (g := gName 14) (tt := tYes) rfl sc_law_graph.nd (pi_range2 rfl B.range (pa_cons pe_int (pa_cons (pv 3) pa_nil))) (blkOk_by (N := n_law_graph) (sc := defScope s_law_graph) (by decide +kernel)) (fun _ _ _ _ _ => (pg_name (i := 14) sc_law_graph.nd rfl (.inl rfl))) (fun _ _ _ _ _ => pts_nil) (fun _ _ _ _ _ => (pe_tup (pa_cons (pe_op op_sub (pv 14) pe_int) (pa_cons (pv 14) pa_nil))))) (pe_lst (pa_cons (pe_tup (pa_cons pe_int (pa_cons (pe_op op_sub (pv 3) pe_int) pa_nil))) pa_nil))))
  (pss_one (ps_set (i := 5) sc_law_graph.nd rfl (.inl rfl) (pe_callB (call_min2 rfl) rfl B.min (by decide +kernel) (pa_cons (pv 5) (pa_cons (pe_op op_sub (pv 2) pe_int) pa_nil)))))) (pss_one (ps_if (PW.pt (pw_and (pt_cmpR op_eq (pv 4) pe_int (nomark _)) (pw_and1 (pt_cmpR op_le (pe_callTy call_int1 rfl B.int (by decide +kernel) (pa_cons (pe_op op_fdiv (pe_op op_mul (pe_op op_sub (pv 3) pe_int) (pe_op op_sub (pv 3) pe_int)) pe_int) pa_nil)) (pv 2) (nomark _))))) (pss_one (ps_par (i := 6) (j := 5) rfl sc_law_graph.nd rfl rfl (by decide) rfl rfl (pa_cons (pe_h h_law_all_pairs hr pass0 (pa_cons (pv 3) pa_nil)) (pa_cons pe_int pa_nil)) rfl)) (pss_one (ps_if (PW.pt (pw_and (pt_cmpR op_eq (pv 4) pe_int (nomark _)) (pw_and (pt_cmpR op_gt (pv 3) pe_int (nomark _)) (pw_and1 (pt_cmpR op_le (pe_op op_add (pe_op op_sub (pe_op op_mul (pe_callTy call_int1 rfl B.int (by decide +kernel) (pa_cons (pe_op op_fdiv (pv 3) pe_int) pa_nil)) (pe_op op_sub (pv 3) (pe_callTy call_int1 rfl B.int (by decide +kernel) (pa_cons (pe_op op_fdiv (pv 3) pe_int) pa_nil)))) (pv 3)) pe_int) (pv 2) (nomark _)))))) (pss_cons (ps_set (i := 7) sc_law_graph.nd rfl (.inr rfl) (pe_callTy call_int1 rfl B.int (by decide +kernel) (pa_cons (pe_op op_fdiv (pv 3) pe_int) pa_nil)))
  (pss_one (ps_par (i := 6) (j := 5) rfl sc_law_graph.nd rfl rfl (by decide) rfl rfl (pa_cons (pe_lc (own := [("k", 14)]) (g := gName 14) (tt := tYes) rfl sc_law_graph.nd (pi_range1 rfl B.range (pa_cons (pe_op op_mul (pv 7) (pe_op op_sub (pv 3) (pv 7))) pa_nil)) (blkOk_by (N := n_law_graph) (sc := defScope s_law_graph) (by decide +kernel)) (fun _ _ _ _ _ => (pg_name (i := 14) sc_law_graph.nd rfl (.inl rfl))) (fun _ _ _ _ _ => pts_nil) (fun _ _ _ _ _ => (pe_tup (pa_cons (pe_callTy call_int1 rfl B.int (by decide +kernel) (pa_cons (pe_op op_fdiv (pv 14) (pe_op op_sub (pv 3) (pv 7))) pa_nil)) (pa_cons (pe_op op_add (pv 7) (pe_op op_mod (pe_callTy call_int1 rfl B.int (by decide +kernel) (pa_cons (pv 14) pa_nil)) (pe_op op_sub (pv 3) (pv 7)))) pa_nil))))) (pa_cons pe_int pa_nil)) rfl))) (pss_one (ps_if (pt_cmpR op_eq (pv 4) pe_int (nomark _)) (pss_one (ps_setLc (i := 6) (own := [("k", 14)]) (g := gName 14) (tt := tYes) rfl sc_law_graph.nd rfl rfl (sw_true rfl rfl rfl (by decide +kernel)) (pi_range2 rfl B.range (pa_cons pe_int (pa_cons (pv 3) pa_nil))) (blkOk_by (N := n_law_graph) (sc := defScope s_law_graph) (by decide +kernel)) (fun _ _ _ _ _ => (pg_name (i := 14) sc_law_graph.nd rfl (.inl rfl))) (fun _ _ _ _ _ => pts_nil) (fun _ _ _ _ _ => (pe_tup (pa_cons (pe_h h_law_pick hr pass0 (pa_cons (pv 0) (pa_cons (pe_lst (pa_cons pe_int (pa_cons (pe_op op_sub (pv 14) pe_int) pa_nil))) pa_nil))) (pa_cons (pv 14) pa_nil)))))) pss_nil)))))))))))
  (pss_cons (ps_set (i := 8) sc_law_graph.nd rfl (.inl rfl) (pe_ix (ixL (K := K) rfl) (pv 6) (pe_h h_law_take hr pass0 (pa_cons (pv 0) (pa_cons (pe_callB (lenK (K := K) rfl) rfl B.len PySem.boot_len (pa_cons (pv 6) pa_nil)) pa_nil))) (fun _ _ => rfl)))
  (Evl.pss_cut (ps_for PassesOwn.never rfl (pi_range1 rfl B.range (pa_cons (pv 5) pa_nil)) (pg_name (i := 9) sc_law_graph.nd rfl (.inl rfl)) (pss_cons (ps_set (i := 10) sc_law_graph.nd rfl (.inl rfl) (pe_h h_law_take hr pass0 (pa_cons (pv 0) (pa_cons (pv 3) pa_nil))))
  (pss_cons (ps_set (i := 11) sc_law_graph.nd rfl (.inl rfl) (pe_op op_mod (pe_callTy call_int1 rfl B.int (by decide +kernel) (pa_cons (pe_op op_add (pe_op op_add (pv 10) pe_int) (pe_h h_law_take hr pass0 (pa_cons (pv 0) (pa_cons (pe_op op_sub (pv 3) pe_int) pa_nil)))) pa_nil)) (pv 3)))
  (pss_one (ps_expr (pe_bm PySem.F.plainAttrs_list PySem.F.slot_list_append PySem.F.type_list_append mt_append (pv 6) (pa_cons (pe_ifExp (pt_cmpR op_eq (pe_h h_law_take hr pass0 (pa_cons (pv 0) (pa_cons pe_int pa_nil))) pe_int (nomark _)) (pv 8) (pe_tup (pa_cons (pv 10) (pa_cons (pv 11) pa_nil)))) pa_nil)))))))
  (pss_cons (ps_set (i := 12) sc_law_graph.nd rfl (.inr rfl) (pe_h h_law_order hr pass0 (pa_cons (pv 0) (pa_cons (pv 3) pa_nil))))
  (pss_cons (ps_set (i := 13) sc_law_graph.nd rfl (.inr rfl) (pe_lc (own := [("u", 15), ("v", 16)]) (g := _) (tt := tYes) rfl sc_law_graph.nd (piL (K := K) rfl (pv 6)) (blkOk_by (N := n_law_graph) (sc := defScope s_law_graph) (by decide +kernel)) (fun _ _ _ _ _ => (pgT (K := K) (n := 2) rfl rfl (pgs_cons (pg_name (i := 15) sc_law_graph.nd rfl (.inl rfl)) (pgs_cons (pg_name (i := 16) sc_law_graph.nd rfl (.inl rfl)) pgs_nil)))) (fun _ _ _ _ _ => pts_nil) (fun _ _ _ _ _ => (pe_tup (pa_cons (pe_callB (call_min2 rfl) rfl B.min (by decide +kernel) (pa_cons (pe_ix (ixT (K := K) rfl) (pv 12) (pv 15) (fun _ _ => rfl)) (pa_cons (pe_ix (ixT (K := K) rfl) (pv 12) (pv 16) (fun _ _ => rfl)) pa_nil))) (pa_cons (pe_callB (call_max2 rfl) rfl B.max (by decide +kernel) (pa_cons (pe_ix (ixT (K := K) rfl) (pv 12) (pv 15) (fun _ _ => rfl)) (pa_cons (pe_ix (ixT (K := K) rfl) (pv 12) (pv 16) (fun _ _ => rfl)) pa_nil))) pa_nil))))))
  (pss_one (ps_ret (pe_tup (pa_cons (pv 3) (pa_cons (pe_lc (own := [("k", 14)]) (g := gName 14) (tt := tYes) rfl sc_law_graph.nd (piT (K := K) rfl (pe_h h_law_order hr pass0 (pa_cons (pv 0) (pa_cons (pe_callB (lenK (K := K) rfl) rfl B.len PySem.boot_len (pa_cons (pv 13) pa_nil)) pa_nil)))) (blkOk_by (N := n_law_graph) (sc := defScope s_law_graph) (by decide +kernel)) (fun _ _ _ _ _ => (pg_name (i := 14) sc_law_graph.nd rfl (.inl rfl))) (fun _ _ _ _ _ => pts_nil) (fun _ _ _ _ _ => (pe_ix (ixL (K := K) rfl) (pv 13) (pv 14) (fun _ _ => rfl)))) pa_nil))))))))))))))), ?_⟩
    refine ⟨fun σ' H' => H' = H ∧ ∃ n : Nat, 1 ≤ n ∧ (n : Int) ≤ most ∧ σ' = [some (.ref a), some (.int most), some (.int genus), some (nV n), none, none, none, none, none, none, none, none, none, none, none, none, none], ?_, ?_⟩
    · refine ⟨_, rfl, _, rfl, a, _, rfl, hp, by omega, by omega, fun r r0 r1 => ⟨_, _, rfl, rfl, rfl, (1 + r).toNat, by omega, by omega, ?_⟩⟩
      have e : V.int (1 + r) = nV (1 + r).toNat := congrArg V.int (by omega)
      show [_, _, _, some (V.int (1 + r)), _, _, _, _, _, _, _, _, _, _, _, _, _] = _
      rw [e]
    rintro σ' H' ⟨rfl, n, n1, n2, rfl⟩
    refine ⟨_, rfl, a, _, rfl, hp, by decide, by decide, fun kind k0 k1 => ?_⟩
    refine ⟨_, rfl, _, rfl, _, _, rfl, rfl, a, _, rfl, hp, by omega, by omega, fun more x0 x1 => ?_⟩
    refine ⟨_, rfl, rfl, _, rfl, ifD (fun e => ?_) (fun e => ?_)⟩
    · have e : (n : Int) = 1 := V.int.inj e
      have e : n = 1 := by omega
      subst e
      refine ⟨Nat.zero_le _, fun l nl => ⟨by show 2 ≤ sizeLine; decide, fun t nt => ?_⟩⟩
      refine q _ t l 1 [] ((same_upd nl).trans (same_upd nt)) upd_same nl ⟨[], ?_, True.intro⟩ n1 n2 ⟨fun e he => (nomatch he), fun f _ i hi => ?_⟩ (by simp; omega)
      · have : l ≠ t := fun e => by rw [← e, upd_same] at nt; cases nt
        rw [upd_ne this, upd_same]
      · have : i = 0 := by omega
        rw [this]
    · have n3 : 2 ≤ n := by
        have : n ≠ 1 := fun h => e (by rw [h]; rfl)
        omega
      have ek : ∀ i : Nat, V.int (1 + (i : Int)) = nV (i + 1) := fun i => congrArg V.int (by omega)
      have eN : ((n : Int) - 1).toNat = n - 1 := by omega
      -- pairs = ..
      refine ⟨_, rfl, 1, _, rfl, ⟨by omega, by omega, by omega, by omega⟩, fun L nL => ?_⟩
      refine lc_range (lo := 1) (n := ((n : Int) - 1).toNat) (TreeAt H' L) (treeAt_nil nL) ?_ ?_
      · rintro i H2 hi t
        rw [ek i]
        refine ⟨rfl, yes_ ?_⟩
        refine ⟨_, rfl, _, rfl, a, _, rfl, hp.same t.1, by omega, by omega, fun r r0 r1 => ⟨_, rfl, by show 2 ≤ sizeLine; decide, fun T nT => ?_⟩⟩
        obtain ⟨x, rfl⟩ : ∃ x : Nat, r = x := ⟨r.toNat, by omega⟩
        exact tree_push nL t nT rfl (by omega) (by omega)
      intro H1 t1
      rw [eN] at t1
      have hp1 : PoolAt H1 a := hp.same t1.1
      refine ⟨MidG H' a most genus kind n, ?_, ?_⟩
      · -- the kinds
        refine ⟨_, rfl, rfl, _, rfl, ifD (fun _ => ?_) (fun _ => ?_)⟩
        · refine ⟨_, rfl, 1, _, rfl, ⟨by omega, by omega, by omega, by omega⟩, fun L2 nL2 => ?_⟩
          refine lc_range (lo := 1) (n := ((n : Int) - 1).toNat) (TreeAt H1 L2) (treeAt_nil nL2) ?_ ?_
          · rintro i H2 hi t
            rw [ek i]
            refine ⟨rfl, yes_ ?_⟩
            refine ⟨_, rfl, _, _, rfl, rfl, _, rfl, by show 2 ≤ sizeLine; decide, fun T nT => ?_⟩
            exact tree_push nL2 t nT (congrArg V.int (by omega : ((i + 1 : Nat) : Int) - 1 = (i : Int))) (Nat.le_refl _) (by omega)
          · intro H2 t
            rw [eN] at t
            exact midG_tree t t1.1 nL2 n3 x0 (by omega)
        refine ⟨_, rfl, rfl, _, rfl, ifD (fun _ => ?_) (fun _ => ?_)⟩
        · refine ⟨_, rfl, 1, _, rfl, ⟨by omega, by omega, by omega, by omega⟩, fun L2 nL2 => ?_⟩
          refine lc_range (lo := 1) (n := ((n : Int) - 1).toNat) (TreeAt H1 L2) (treeAt_nil nL2) ?_ ?_
          · rintro i H2 hi t
            rw [ek i]
            refine ⟨rfl, yes_ ?_⟩
            refine ⟨_, rfl, by show 2 ≤ sizeLine; decide, fun T nT => ?_⟩
            exact tree_push (x := 0) nL2 t nT rfl (Nat.zero_le _) (by omega)
          · intro H2 t
            rw [eN] at t
            exact midG_tree t t1.1 nL2 n3 x0 (by omega)
        -- elif kind == 4 and genus >= 1
        refine st_ite (ans_and2 (fun Q q => ⟨_, rfl, rfl, _, rfl, q⟩) (fun Q q => ⟨_, rfl, _, _, rfl, rfl, _, rfl, q⟩)) (fun hc => ?_) (fun _ => ?_)
        · have hg : (1 : Int) ≤ genus := of_decide_eq_true (Bool.and_eq_true_iff.mp hc).2
          refine ⟨_, rfl, 1, _, rfl, ⟨by omega, by omega, by omega, by omega⟩, fun L2 nL2 => ?_⟩
          refine lc_range (lo := 1) (n := ((n : Int) - 1).toNat) (TreeAt H1 L2) (treeAt_nil nL2) ?_ ?_
          · rintro i H2 hi t
            rw [ek i]
            refine ⟨rfl, yes_ ?_⟩
            refine ⟨_, rfl, _, _, rfl, rfl, _, rfl, by show 2 ≤ sizeLine; decide, fun T nT => ?_⟩
            exact tree_push nL2 t nT (congrArg V.int (by omega : ((i + 1 : Nat) : Int) - 1 = (i : Int))) (Nat.le_refl _) (by omega)
          · intro H2 t
            rw [eN] at t
            obtain ⟨sm2, ps, ⟨vs, pl1, pl2⟩, tr, el⟩ := t
            refine ⟨_, rfl, _, _, rfl, rfl, by show 2 ≤ sizeLine; decide, fun T nT => ⟨by show 1 ≤ sizeLine; decide, fun R nR => ?_⟩⟩
            have lvs := pl2.len
            have s3 : Same H2 (upd H2 T (.tup [.int 0, .int ((n : Int) - 1)])) := same_upd nT
            have s4 : Same H2 (upd (upd H2 T (.tup [.int 0, .int ((n : Int) - 1)])) R (.lst [.ref T])) := s3.trans (same_upd nR)
            have hT : (upd (upd H2 T (.tup [.int 0, .int ((n : Int) - 1)])) R (.lst [.ref T])) T = some (.tup [nV 0, nV (n - 1)]) := by
              have : T ≠ R := fun e => by rw [← e, upd_same] at nR; cases nR
              rw [upd_ne this, upd_same]
              have e : V.int ((n : Int) - 1) = nV (n - 1) := congrArg V.int (by omega)
              rw [e]; rfl
            refine ⟨L2, R, vs, [.ref T], rfl, rfl, s4 _ _ pl1, upd_same, size_le (by show vs.length + 1 ≤ 100000; omega), fun pp np => ?_⟩
            refine ⟨_, rfl, _, rfl, _, _, rfl, rfl, _, _, rfl, ?_⟩
            have e : ps.length + 1 = n := by omega
            refine ⟨pp, _, ps ++ [(0, n - 1)], none, rfl, ((t1.1.trans sm2).trans s4).trans (same_upd np), ((t1.1.trans sm2).trans s4).free np, ⟨_, upd_same, Prs.same (same_upd np) (Prs.app (pl2.same s4) ⟨⟨T, rfl, hT⟩, True.intro⟩)⟩, ?_, ?_, ?_, (e ▸ tr.edg : Edg n ps).app ?_, (e ▸ tr.spans : Spans n ps).app⟩
            · show 0 ≤ if genus - 1 < more then genus - 1 else more
              split <;> omega
            · rw [List.length_append]
              show ((ps.length + 1 : Nat) : Int) + (if genus - 1 < more then genus - 1 else more) + 1 ≤ _
              split <;> omega
            · rw [List.length_append]; show 1 ≤ ps.length + 1; omega
            · intro e he
              rw [List.mem_singleton.mp he]
              show 0 ≠ n - 1 ∧ 0 < n ∧ n - 1 < n
              omega
        -- elif kind == 5 and ..
        refine st_ite (ans_and2 (fun Q q => ⟨_, rfl, rfl, _, rfl, q⟩) (fun Q q => ⟨_, rfl, _, _, rfl, rfl, _, rfl, _, _, rfl, rfl, _, _, rfl, rfl, .inl ⟨by omega, by omega⟩, _, _, rfl, rfl, ⟨by decide, by decide⟩, .inl ⟨_, rfl, _, rfl, _, _, rfl, rfl, _, rfl, q⟩⟩)) (fun hc => ?_) (fun _ => ?_)
        · have hg : ((n : Int) - 1) * ((n : Int) - 2) / 2 ≤ genus := of_decide_eq_true (Bool.and_eq_true_iff.mp hc).2
          refine ⟨_, rfl, n, rfl, by omega, fun H2 pp sm2 np pl => ⟨_, _, rfl, ?_⟩⟩
          refine ⟨pp, 0, allPairs n, none, rfl, t1.1.trans sm2, t1.1.free np, pl, Int.le_refl 0, ?_, ?_, allPairs_edg, allPairs_spans⟩
          · have := allPairs_len2 n
            have e1 : ((n : Int) - 1) * ((n : Int) - 2) = (n : Int) * ((n : Int) - 1) - 2 * ((n : Int) - 1) := by
              rw [Int.sub_mul, Int.mul_sub, Int.mul_sub, Int.mul_sub]; omega
            have e2 : (n : Int) * ((n : Int) - 1) = 2 * ((allPairs n).length : Int) := by
              have : ((n * (n - 1) : Nat) : Int) = ((2 * (allPairs n).length : Nat) : Int) := by rw [this]
              rw [Int.natCast_mul, Int.natCast_mul] at this
              have e3 : ((n - 1 : Nat) : Int) = (n : Int) - 1 := by omega
              rw [e3] at this
              exact this
            rw [e1, e2] at hg
            omega
          · have := allPairs_len2 n
            have h2 : 2 * 1 ≤ n * (n - 1) := Nat.mul_le_mul n3 (by omega)
            omega
        -- elif kind == 6 and n > 3 and ..
        have eh : ((n : Int) / 2) = ((n / 2 : Nat) : Int) := rfl
        have ed : ((n : Int) - ((n / 2 : Nat) : Int)) = ((n - n / 2 : Nat) : Int) := by omega
        refine st_ite (ans_and2 (fun Q q => ⟨_, rfl, rfl, _, rfl, q⟩) (ans_and2 (fun Q q => ⟨_, rfl, _, _, rfl, rfl, _, rfl, q⟩)
          (fun Q q => ⟨_, rfl, _, _, rfl, rfl, ⟨by decide, by decide⟩, .inl ⟨_, rfl, _, rfl, _, rfl, _, _, rfl, rfl, ⟨by decide, by decide⟩, .inl ⟨_, rfl, _, _, rfl, rfl, _, _, rfl, rfl, .inl ⟨by omega, by omega⟩, _, rfl, _, _, rfl, rfl, _, _, rfl, rfl, _, rfl, _, _, rfl, rfl, _, rfl, q⟩⟩⟩))) (fun hc => ?_) (fun _ => ?_)
        · obtain ⟨_, hc⟩ := Bool.and_eq_true_iff.mp hc
          obtain ⟨hn3, hc⟩ := Bool.and_eq_true_iff.mp hc
          have hn3 : (3 : Int) < n := of_decide_eq_true hn3
          have hg : ((n : Int) / 2) * ((n : Int) - (n : Int) / 2) - n + 1 ≤ genus := of_decide_eq_true hc
          rw [eh, ed, ← Int.natCast_mul] at hg
          have hm : ((n / 2 * (n - n / 2) : Nat) : Int) ≤ 4096 := by
            have : n / 2 * (n - n / 2) ≤ 64 * 64 := Nat.mul_le_mul (by omega) (by omega)
            omega
          refine ⟨_, rfl, _, _, rfl, rfl, ⟨by decide, by decide⟩, .inl ⟨_, rfl, ?_⟩⟩
          have em : ((n / 2 : Nat) : Int) * ((n : Int) - ((n / 2 : Nat) : Int)) = ((n / 2 * (n - n / 2) : Nat) : Int) := by rw [ed, Int.natCast_mul]
          refine ⟨_, rfl, _, rfl, _, rfl, _, _, rfl, rfl, _, _, rfl, rfl, .inl ⟨by omega, by omega⟩, ((n / 2 : Nat) : Int) * ((n : Int) - ((n / 2 : Nat) : Int)), rfl, by omega, by omega, fun L2 nL2 => ?_⟩
          refine lc_range (lo := 0) (n := (((n / 2 : Nat) : Int) * ((n : Int) - ((n / 2 : Nat) : Int))).toNat) (fun i H2 => Same H1 H2 ∧ PLst H2 L2 ((bip n (n / 2)).take i)) ⟨same_upd nL2, [], upd_same, by rw [List.take_zero]; exact True.intro⟩ ?_ ?_
          · rintro i H2 hi ⟨sm2, pl2⟩
            have hi : i < n / 2 * (n - n / 2) := by omega
            have ei : V.int (0 + (i : Int)) = nV i := by rw [Int.zero_add]
            rw [ei]
            refine ⟨rfl, yes_ ?_⟩
            refine ⟨_, rfl, _, rfl, _, rfl, _, _, rfl, rfl, _, _, rfl, rfl, ⟨by omega, by omega⟩, .inl ⟨_, rfl, ?_⟩⟩
            refine ⟨_, rfl, _, rfl, .inl ⟨_, rfl, _, rfl, _, rfl, _, _, rfl, rfl, _, _, rfl, rfl, ?_, _, _, rfl, rfl, by show 2 ≤ sizeLine; decide, fun T nT => ?_⟩⟩
            · show (0 : Int) < (n : Int) - ((n / 2 : Nat) : Int)
              omega
            have v1 : V.int ((i : Int) / ((n : Int) - ((n / 2 : Nat) : Int))) = nV (i / (n - n / 2)) := by rw [ed]; rfl
            have v2 : V.int (((n / 2 : Nat) : Int) + (i : Int) % ((n : Int) - ((n / 2 : Nat) : Int))) = nV (n / 2 + i % (n - n / 2)) := by rw [ed]; rfl
            obtain ⟨vs, h1, h2, h3⟩ := pl2.pushV (Same.refl H2) nT v1 v2
            refine ⟨vs, h1, size_lt (by rw [h2, List.length_take]; omega), same_mut (sm2.trans (same_upd nT)) nL2, ?_⟩
            rw [List.take_add_one, bip_get hi]
            exact h3
          · rintro H2 ⟨sm2, pl2⟩
            rw [em, Int.toNat_natCast, List.take_of_length_le (by rw [bip_len]; omega)] at pl2
            refine ⟨_, _, rfl, ?_⟩
            refine ⟨L2, 0, bip n (n / 2), _, rfl, t1.1.trans sm2, t1.1.free nL2, pl2, Int.le_refl 0, ?_, ?_, bip_edg (by omega), bip_spans (by omega) (by omega)⟩
            · rw [bip_len]; omega
            · rw [bip_len]
              have : 1 * 1 ≤ n / 2 * (n - n / 2) := Nat.mul_le_mul (by omega) (by omega)
              omega
        -- elif kind == 7
        refine ⟨_, rfl, rfl, _, rfl, ifD (fun _ => ?_) (fun _ => ?_)⟩
        · refine ⟨_, rfl, 1, _, rfl, ⟨by omega, by omega, by omega, by omega⟩, fun L2 nL2 => ?_⟩
          refine lc_range (lo := 1) (n := ((n : Int) - 1).toNat) (TreeAt H1 L2) (treeAt_nil nL2) ?_ ?_
          · rintro i H2 hi t
            rw [ek i]
            refine ⟨rfl, yes_ ?_⟩
            refine ⟨_, rfl, _, rfl, _, _, rfl, rfl, by show 2 ≤ sizeLine; decide, fun R nR => ?_⟩
            have sR := same_upd (o := .lst [.int 0, .int (((i + 1 : Nat) : Int) - 1)]) nR
            refine ⟨a, R, _, rfl, (hp1.same t.1).same sR, SqL.of upd_same, by show 0 < 2; decide, by show 2 < 1000000000; decide, fun j v hj => ?_⟩
            refine ⟨_, rfl, by show 2 ≤ sizeLine; decide, fun T nT => ?_⟩
            match j, hj with
            | 0, hj => exact tree_push nL2 (t.same sR) nT (Option.some.inj hj).symm (Nat.zero_le _) (by omega)
            | 1, hj => exact tree_push nL2 (t.same sR) nT ((Option.some.inj hj).symm.trans (congrArg V.int (by omega : ((i + 1 : Nat) : Int) - 1 = (i : Int)))) (Nat.le_refl _) (by omega)
            | j + 2, hj => exact nomatch hj
          · intro H2 t
            rw [eN] at t
            exact midG_tree t t1.1 nL2 n3 x0 (by omega)
        · exact midG_tree t1 (Same.refl _) nL n3 x0 (by omega)
      · rintro σ2 H2 ⟨pp, mr, ps, yh, rfl, sm2, npp, pl, mr0, hlen, l1, ed, sp⟩
        obtain ⟨vs, hv1, hv2⟩ := pl.size
        refine ⟨_, rfl, _, rfl, _, rfl, _, ps.length, rfl, .inl ⟨_, SqL.of hv1, hv2.symm⟩, ?_⟩
        refine ⟨a, _, rfl, hp.same sm2, by omega, by omega, fun r r0 r1 => ?_⟩
        have hr2 : r.toNat < ps.length := by omega
        obtain ⟨vs', hv3, hv4⟩ := pl
        obtain ⟨t, et, ht⟩ := Prs.get hv4 hr2
        refine ⟨_, _, r, _, rfl, rfl, SqL.of hv3, atI_int r0 et, ?_⟩
        obtain ⟨ne, ht1, ht2⟩ := ed _ (List.getElem_mem hr2)
        generalize ps[r.toNat] = e0 at ht ne ht1 ht2
        -- for turn in range(more)
        refine ⟨fun σ3 H3 => ∃ (y9 y10 y11 : Option V) (qs : List Pr), σ3 = [some (.ref a), some (.int most), some (.int genus), some (nV n), some (.int kind), some (.int mr), some (.ref pp), yh, some (.ref t), y9, y10, y11, none, none, none, none, none] ∧
          Same H' H3 ∧ PLst H3 pp qs ∧ (qs.length : Int) + 1 ≤ n + genus ∧ 1 ≤ qs.length ∧ Edg n qs ∧ Spans n qs, ?_, ?_⟩
        · refine ⟨_, rfl, mr, rfl, by omega, by omega, for_range (lo := 0) (n := mr.toNat) (fun i σ3 H3 => ∃ (y9 y10 y11 : Option V) (qs : List Pr), σ3 = [some (.ref a), some (.int most), some (.int genus), some (nV n), some (.int kind), some (.int mr), some (.ref pp), yh, some (.ref t), y9, y10, y11, none, none, none, none, none] ∧
            Same H' H3 ∧ PLst H3 pp qs ∧ qs.length = ps.length + i ∧ Edg n qs ∧ Spans n qs ∧ H3 t = some (.tup [nV e0.1, nV e0.2])) ?_ ?_ ?_⟩
          · exact ⟨none, none, none, ps, rfl, sm2, ⟨vs', hv3, hv4⟩, rfl, ed, sp, ht⟩
          · rintro i σ3 H3 hi ⟨y9, y10, y11, qs, rfl, sm3, pl3, lq, edq, spq, ht3⟩
            have hp3 : PoolAt H3 a := hp.same sm3
            refine ⟨_, rfl, _, rfl, a, _, rfl, hp3, by omega, by omega, fun x x0' x1' => ?_⟩
            obtain ⟨x, rfl⟩ : ∃ x' : Nat, x = x' := ⟨x.toNat, by omega⟩
            refine ⟨_, rfl, _, _, rfl, rfl, _, rfl, _, rfl, _, _, rfl, rfl, a, _, rfl, hp3, by omega, by omega, fun y y0' y1' => ?_⟩
            obtain ⟨y, rfl⟩ : ∃ y' : Nat, y = y' := ⟨y.toNat, by omega⟩
            refine ⟨_, _, rfl, rfl, .inl ⟨_, rfl, _, rfl, _, _, rfl, rfl, by show (0 : Int) < n; omega, ?_⟩⟩
            obtain ⟨mo1, mo2⟩ := mod_other (n := n) (x := x) (y := y) (by omega) (by omega)
            obtain ⟨ws, hw1, hw2⟩ := pl3.size
            refine ⟨_, rfl, .inl ⟨rfl, _, SqL.of hw1⟩, _, rfl, a, _, rfl, hp3, by decide, by decide, fun z z0 z1 => ⟨rfl, _, rfl, ifD (fun _ => ?_) (fun _ => ?_)⟩⟩
            · obtain ⟨ws', k1', k2', k3'⟩ := pl3.push' ht3
              refine ⟨_, rfl, pp, ws', _, rfl, rfl, k1', size_lt (by omega), ?_⟩
              refine ⟨_, _, _, qs ++ [(e0.1, e0.2)], rfl, same_mut sm3 npp, k3', by rw [List.length_append, lq]; rfl, edq.app ?_, spq.app, ?_⟩
              · intro e he
                rw [List.mem_singleton.mp he]
                exact ⟨ne, ht1, ht2⟩
              · rw [upd_ne (ne_of ht3 k1' (fun q => by cases q))]; exact ht3
            · refine ⟨_, rfl, _, rfl, by show 2 ≤ sizeLine; decide, fun T nT => ?_⟩
              have vo : V.int (((x : Int) + 1 + (y : Int)) % (n : Int)) = nV ((x + 1 + y) % n) := rfl
              obtain ⟨ws', k1', k2', k3'⟩ := pl3.pushV (Same.refl H3) nT (rfl : V.int (x : Int) = nV x) vo
              refine ⟨pp, ws', _, rfl, rfl, k1', size_lt (by omega), ?_⟩
              refine ⟨_, _, _, qs ++ [(x, (x + 1 + y) % n)], rfl, same_mut (sm3.trans (same_upd nT)) npp, k3', by rw [List.length_append, lq]; rfl, edq.app ?_, spq.app, ?_⟩
              · intro e he
                rw [List.mem_singleton.mp he]
                exact ⟨fun q => mo1 q.symm, by omega, mo2⟩
              · rw [upd_ne (ne_of ((same_upd nT) _ _ ht3) k1' (fun q => by cases q))]
                exact (same_upd nT) _ _ ht3
          · rintro σ3 H3 ⟨y9, y10, y11, qs, rfl, sm3, pl3, lq, edq, spq, ht3⟩
            exact ⟨_, _, _, qs, rfl, sm3, pl3, by omega, by omega, edq, spq⟩
        · rintro σ3 H3 ⟨y9, y10, y11, qs, rfl, sm3, pl3, lq, lq1, edq, spq⟩
          -- order, edges
          refine ⟨_, rfl, _, rfl, a, _, rfl, hp.same sm3, by omega, by omega, fun H4 op o sm4 ho hperm => ?_⟩
          rw [Int.toNat_natCast] at hperm
          have lo : o.length = n := by rw [hperm.length_eq, List.length_range]
          obtain ⟨ws, hw1, hw2⟩ := pl3.same sm4
          have lw := hw2.len
          refine ⟨_, rfl, pp, rfl, ⟨_, SqL.of hw1⟩, fun E1 nE1 => ?_⟩
          refine lc_list (K := K) (a := pp) (xs := ws) (fun i H5 => Same H4 H5 ∧ PLst H5 E1 ((qs.map (relabel o)).take i)) ⟨same_upd nE1, [], upd_same, by rw [List.take_zero]; exact True.intro⟩ (fun i H5 _ h => SqL.of (h.1 _ _ hw1)) ?_ ?_
          · rintro i x H5 hx ⟨sm5, pl5⟩
            have hi : i < qs.length := by rw [← lw]; exact (List.getElem?_eq_some_iff.mp hx).1
            obtain ⟨T, eT, hT⟩ := Prs.get hw2 hi
            rw [eT] at hx
            obtain rfl := Option.some.inj hx
            have hT5 := sm5 _ _ hT
            obtain ⟨_, u1, u2⟩ := edq _ (List.getElem_mem hi)
            have g1 : (o.map nV)[qs[i].1]? = some (nV (o.getD qs[i].1 0)) := by
              rw [List.getD_eq_getElem?_getD, List.getElem?_map, List.getElem?_eq_getElem (by omega)]; rfl
            have g2 : (o.map nV)[qs[i].2]? = some (nV (o.getD qs[i].2 0)) := by
              rw [List.getD_eq_getElem?_getD, List.getElem?_map, List.getElem?_eq_getElem (by omega)]; rfl
            have ho5 := SqT.of (K := K) (sm5 _ _ ho)
            refine ⟨T, _, rfl, SqT.of hT5, rfl, _, _, rfl, _, _, rfl, rfl, rfl, yes_ ?_⟩
            refine ⟨_, rfl, _, rfl, _, _, _, _, rfl, rfl, ho5, atI_nat g1, _, rfl, _, rfl, _, _, _, _, rfl, rfl, ho5, atI_nat g2, _, _, rfl, ?_⟩
            refine ⟨_, rfl, _, rfl, _, _, _, _, rfl, rfl, ho5, atI_nat g1, _, rfl, _, rfl, _, _, _, _, rfl, rfl, ho5, atI_nat g2, _, _, rfl, by show 2 ≤ sizeLine; decide, fun T2 nT2 => ?_⟩
            have m1' : V.int (if ((o.getD qs[i].2 0 : Nat) : Int) < ((o.getD qs[i].1 0 : Nat) : Int) then ((o.getD qs[i].2 0 : Nat) : Int) else ((o.getD qs[i].1 0 : Nat) : Int)) = nV (min (o.getD qs[i].1 0) (o.getD qs[i].2 0)) := congrArg V.int (by split <;> omega)
            have m2' : V.int (if ((o.getD qs[i].2 0 : Nat) : Int) > ((o.getD qs[i].1 0 : Nat) : Int) then ((o.getD qs[i].2 0 : Nat) : Int) else ((o.getD qs[i].1 0 : Nat) : Int)) = nV (max (o.getD qs[i].1 0) (o.getD qs[i].2 0)) := congrArg V.int (by split <;> omega)
            obtain ⟨zs, k1', k2', k3'⟩ := pl5.pushV (Same.refl H5) nT2 m1' m2'
            refine ⟨zs, k1', size_lt (by rw [k2', List.length_take]; omega), same_mut (sm5.trans (same_upd nT2)) nE1, ?_⟩
            rw [List.take_add_one, List.getElem?_map, List.getElem?_eq_getElem hi]
            exact k3'
          · rintro H5 ⟨sm5, pl5⟩
            rw [lw, List.take_of_length_le (by rw [List.length_map]; exact Nat.le_refl _)] at pl5
            have gd := relabel_good (by omega) hperm edq spq
            obtain ⟨zs, hz1, hz2⟩ := pl5.size
            rw [List.length_map] at hz2
            have hp5 : PoolAt H5 a := hp.same ((sm3.trans sm4).trans sm5)
            refine ⟨_, rfl, _, rfl, _, rfl, _, qs.length, rfl, .inl ⟨_, SqL.of hz1, hz2.symm⟩, a, _, rfl, hp5, by omega, by omega, fun H6 op2 o2 sm6 ho2 hperm2 => ?_⟩
            rw [Int.toNat_natCast] at hperm2
            have lo2 : o2.length = qs.length := by rw [hperm2.length_eq, List.length_range]
            refine ⟨op2, rfl, ⟨_, SqT.of ho2⟩, fun E2 nE2 => ?_⟩
            obtain ⟨zs6, hz6, hz7⟩ := pl5.same sm6
            refine lc_tup (K := K) (a := op2) (xs := o2.map nV) (fun i H7 => Same H6 H7 ∧ PLst H7 E2 ((pick (qs.map (relabel o)) o2).take i)) ⟨same_upd nE2, [], upd_same, by rw [List.take_zero]; exact True.intro⟩ (fun i H7 _ h => SqT.of (h.1 _ _ ho2)) ?_ ?_
            · rintro i x H7 hx ⟨sm7, pl7⟩
              have hi : i < o2.length := by
                have := (List.getElem?_eq_some_iff.mp hx).1
                rwa [List.length_map] at this
              rw [getMap hi] at hx
              obtain rfl := Option.some.inj hx
              have hk : o2[i] < (qs.map (relabel o)).length := by
                rw [List.length_map]
                exact List.mem_range.mp (hperm2.mem_iff.mp (List.getElem_mem hi))
              obtain ⟨T, eT, hT⟩ := Prs.get hz7 hk
              refine ⟨rfl, yes_ ?_⟩
              refine ⟨_, rfl, _, rfl, _, _, _, _, rfl, rfl, SqL.of (sm7 _ _ hz6), atI_nat eT, ?_⟩
              obtain ⟨ws', k1', k2', k3'⟩ := pl7.push' (sm7 _ _ hT)
              refine ⟨ws', k1', size_lt (by rw [k2', List.length_take]; omega), same_mut sm7 nE2, ?_⟩
              unfold pick
              rw [List.take_add_one, List.getElem?_map, List.getElem?_eq_getElem hi]
              have e : (qs.map (relabel o)).getD o2[i] (0, 0) = (qs.map (relabel o))[o2[i]] := by
                rw [List.getD_eq_getElem?_getD, List.getElem?_eq_getElem hk]; rfl
              show PLst _ E2 (_ ++ [(qs.map (relabel o)).getD o2[i] (0, 0)])
              rw [e]
              exact k3'
            · rintro H7 ⟨sm7, pl7⟩
              have lp : (pick (qs.map (relabel o)) o2).length = qs.length := by unfold pick; rw [List.length_map, lo2]
              rw [List.length_map, List.take_of_length_le (by rw [lp, lo2]; exact Nat.le_refl _)] at pl7
              have pm : (pick (qs.map (relabel o)) o2).Perm (qs.map (relabel o)) := pick_perm (by rw [List.length_map]; exact hperm2)
              refine ⟨by show 2 ≤ sizeLine; decide, fun t nt => ?_⟩
              refine q _ t E2 n _ (((((sm3.trans sm4).trans sm5).trans sm6).trans sm7).trans (same_upd nt)) upd_same ((((sm3.trans sm4).trans sm5).trans sm6).free nE2) (pl7.same (same_upd nt)) n1 n2 (gd.perm pm) ?_
              rw [lp]; exact lq
end
end G3

set_option Elab.async false
set_option linter.all false
set_option maxRecDepth 100000
set_option maxHeartbeats 4000000
/-! An own error whose __init__ says super().__init__(number) and self.number = number; made, raised, caught. -/
namespace SupX
open PySem PySem.W PySem.Calls PyProof.Rows PySem.HandSPX
def iA (p1 p2 : Pos) : Arguments :=
  { posonlyargs := [], args := [⟨"self", none, p1⟩, ⟨"number", none, p2⟩], vararg := none, kwonlyargs := [], kw_defaults := [], kwarg := none, defaults := [] }
def iB (q1 q2 q3 q4 q5 q6 q7 q8 q9 q10 : Pos) : List Stmt :=
  [.Expr (.Call (.Attribute (.Call (.Name "super" q1) [] [] q2) "__init__" q3) [.Name "number" q4] [] q5) q6, .Assign [.Attribute (.Name "self" q7) "number" q8] (.Name "number" q9) q10]
def iS : Scope :=
  { kind := .function, names := [(Str.ofString "self", .local), (Str.ofString "number", .local), (Str.ofString "__class__", .free), (Str.ofString "super", .globalImplicit)], isGenerator := false, isCoroutine := false, more := [] }
/-- what the written part says of such a class at C, its name x, its __init__ at fI -/
structure SupTxt (prog : Program) (K : Frag) (mg : Str → Option Value) (x : Str) (C fI : Addr) : Prop where
  gC : mg x = some (.ref C)
  cls : ∃ nm q N bs bm sn sub ab col dd k0 k1 k2 k3 k5, K.lookup C = some (excClassObj nm q C N bs bm true sn sub ab col dd k0 k1 k2 k3 k5 "ValueError.__new__") ∧ refsVE bm = true
  sa : findIn K (.ref C) "__setattr__" = some (some (.builtin "object.__setattr__"))
  ga : findIn K (.ref C) "__getattribute__" = some (some (.builtin "BaseException.__getattribute__"))
  gg : findIn K (.ref C) "__getattr__" = some none
  noN : findIn K (.ref C) "number" = some none
  iC : findIn K (.ref C) "__init__" = some (some (.ref fI))
  tC : typeIn K (.ref fI) = some (.type "function")
  kC : keepIn K (.ref C) = true
  exC : subIn K (.ref C) (.type "BaseException") = some true
  vE : subIn K (.ref C) (.type "ValueError") = some true
  tyC : typeIn K (.ref C) = some (.type "type")
  hdC : hasDictIn K C = true
  sup : ks_superIn K C C "__init__" = some (some (.builtin "ValueError.__init__"))
  self_ : mroIn K C (.ref C) = some true
  stat : nsIn K cStatics "thirdparty.any" = some none
  free : mg "super" = none
  htop : (prog.main.scope.names.lookup (Str.ofString "super")).isSome = false
  fn : ∃ (oc : Value) (od : Option Addr) (doc pm : Value) (an : Option Addr) (ct : Value) (osl : Array (Option Value)) (p1 p2 q1 q2 q3 q4 q5 q6 q7 q8 q9 q10 : Pos) (qual : Str) (cda cc : Addr),
    K.lookup fI = some ⟨oc, od, .func (ksFn "__init__" qual (iA p1 p2) (iB q1 q2 q3 q4 q5 q6 q7 q8 q9 q10) iS .none .none doc pm an (.ref cda) ct cc), osl⟩ ∧ codeIn K (.ref cda) qual = true ∧ (q3.endLine == q5.line) = true ∧
    (∃ (cl : Value) (cld : Option Addr) (csl : Array (Option Value)), K.lookup cc = some ⟨cl, cld, .cell (some (.ref C)), csl⟩) ∧
    ∃ (ccl : Value) (cdd : Option Addr) (ccs : Array (Option Value)) (vs : Array Value) (file : Str) (tf : Tok), K.lookup cda = some ⟨ccl, cdd, .fields vs, ccs⟩ ∧ vs[2]? = some (.str file tf) ∧ ((prog.main.file : Str) == file) = true
/-- what __init__ leaves of a fresh exception at e -/
structure SupEnd (h h' : Heap) (e C dx t1 : Addr) (v : Value) : Prop where
  keep : ∀ b o, b ≠ e → h.get? b = some o → h'.get? b = some o
  obj : h'.get? e = some { cls := .ref C, dict := some dx, data := .fields #[.ref t1, .none, .none, .none, .bool false, .none] }
  dbig : h.objs.size ≤ dx
  dne : dx ≠ e
  ns : h'.Ns1 dx (fun y => if y = "number" then some v else none)
theorem in_but {K : Frag} {h h' : Heap} {x : Addr} (X : K.In h) (hx : K.lookup x = none) (k : ∀ b o, b ≠ x → h.get? b = some o → h'.get? b = some o) : K.In h' := fun a o q =>
  k a o (fun z => by rw [z, hx] at q; cases q) (X a o q)
section
variable {prog : Program} {w : World} {A : Around} {E : Value → Shared → Prop} {R : Result → Shared → Prop} {s : Shared} {K : Frag} {mg mb : Str → Option Value} {x : Str} {C fI : Addr}
theorem sup_init (T : SupTxt prog K mg x C fI) {e t0 : Addr} {v : Value} (X : K.In s.heap) (hlim : s.heap.NoLimit) (G : s.heap.Ns mainGlobals mg) (Bn : s.heap.Ns builtinsNs mb) (hb : mb "super" = some (.type "super"))
    (hx : s.heap.get? e = some (excO C t0)) (hnx : K.lookup e = none) (hroom : A.depth < recursionLimit)
    (hq : ∀ h' tk dx t1, SupEnd s.heap h' e C dx t1 v → R (.ok (.ret .none)) { s with heap := h', toks := tk }) :
    codeAny (model prog w) A (.call (.ref fI) ⟨[.ref e, v], []⟩) R s := by
  obtain ⟨hp, g, d, t, os⟩ := s
  obtain ⟨oc, od, doc, pm, an, ct, osl, p1, p2, q1, q2, q3, q4, q5, q6, q7, q8, q9, q10, qual, cda, cc, ho, hcd, hline, ⟨cl, cld, csl, hcc⟩, ccl, cdd, ccs, vs, file, tf, hcode, hvs, hfile⟩ := T.fn
  obtain ⟨nm, q, N, bs, bm, sn, sub, ab, col, dd, k0, k1, k2, k3, k5, hC, hbm⟩ := T.cls
  have hcl : clsIn K C = some { name := nm, bases := bs, mro := .ref C :: bm, ns := N, qualname := q, hasDict := true, slotNames := sn, subclasses := sub, abstract := ab, collection := col, hasDel := false } := by unfold clsIn; rw [hC] <;> rfl
  refine ks_codeAny_call_defAt (fd := ksFn "__init__" qual (iA p1 p2) (iB q1 q2 q3 q4 q5 q6 q7 q8 q9 q10) iS .none .none doc pm an (.ref cda) ct cc) (body := iB q1 q2 q3 q4 q5 q6 q7 q8 q9 q10)
    (binds := [("self", .ref e), ("number", v)]) hroom (X _ _ ho) rfl hlim (codeRec_of X hcd) rfl (BindsTo.of_eq (by first | rfl | with_unfolding_all rfl)) (show ∀ y ∈ iS.names, y.2 ≠ .cell by decide) (locs rfl) (fun h₀ hns hk => ?_)
  have X0 : K.In h₀ := X.keeps hk
  have he0 : h₀.get? e = some (excO C t0) := hk _ _ hx
  have I0 : InstAt h₀ e (excO C t0) C none := ⟨he0, rfl, rfl, trivial⟩
  have heL : e ≠ hp.objs.size := Nat.ne_of_lt (Heap.lt_size hx)
  refine ks_wpAt_execs_cons (env := ksEnv qual iS hp.objs.size fI (.ref cda) cc) (ks_wpAt_Expr_any ?_)
  have hcall : eval (.Call (.Attribute (.Call (.Name "super" q1) [] [] q2) "__init__" q3) [.Name "number" q4] [] q5) (ksEnv qual iS hp.objs.size fI (.ref cda) cc) = (do
      let ov ← attributeBase (.Call (.Name "super" q1) [] [] q2) "__init__" (ksEnv qual iS hp.objs.size fI (.ref cda) cc) (eval (.Call (.Name "super" q1) [] [] q2) (ksEnv qual iS hp.objs.size fI (.ref cda) cc))
      standAt q3.atName
      let (f, first) ← holding [ov] (getMethod ov "__init__" (L2.plainOf (.Call (.Name "super" q1) [] [] q2) (ksEnv qual iS hp.objs.size fI (.ref cda) cc)))
      callWith q5 f first (backTo q5 (starEach [.Name "number" q4] (ksEnv qual iS hp.objs.size fI (.ref cda) cc))) []) := by
    rw [arm_eval_Call]
    congr 1
    funext ov
    congr 1
    funext _
    exact L2.mcall_line rfl hline
  refine ks_wpAt_MethodCall ?_ hcall
  refine ks_wpAt_super_base (env := ksEnv qual iS hp.objs.size fI (.ref cda) cc) rfl rfl rfl rfl (X0 _ _ ho) rfl rfl rfl (X0 _ _ hcode) rfl hvs hfile T.htop ?_
  refine ks_loadName_global rfl rfl (loadGlobal_builtin (env := ksEnv qual iS hp.objs.size fI (.ref cda) cc) (G.keeps hk) T.free (Bn.keeps hk) hb ⟨rfl, ?_⟩)
  refine wpAny_loadName_free rfl rfl rfl ⟨_, X0 _ _ hcc, rfl⟩ ?_
  refine wpAny_loadName_local rfl rfl hns rfl ?_
  refine ks_wpAny_isType_cls (X0 _ _ hC) rfl ⟨rfl, ?_⟩
  refine ks_wpAny_call_super (X0 _ _ hC) rfl he0 rfl (fun c z => nomatch z) (looks_mroIn X0 T.self_) (fun h1 hso k1 => ?_)
  have X1 : K.In h1 := X0.keeps k1
  have I1 : InstAt h1 e (excO C t0) C none := ⟨k1 _ _ he0, rfl, rfl, trivial⟩
  have hal : alongIn K "__init__" (((Value.ref C :: bm).dropWhile (· != .ref C)).drop 1) = some (some (.builtin "ValueError.__init__")) := by
    have z := T.sup
    unfold ks_superIn at z
    rw [hcl] at z
    exact z
  refine kxs_getMethod kxs_ValueError hso (looks_opaque X1 T.stat) (l₀ := .ref C :: bm) (fun A Q E s k q => wpAny_bind ((looks_clsIn X1 hcl) A _ E s k (wpAny_pure q))) rfl X1 hal (I1.type.andThen (looks_subIn X1 T.vE)) (ks_ne X1 I1 hcl) rfl ?_
  have hmw : (h1.push (kxs_mw "ValueError.__init__" e)).get? h1.objs.size = some (kxs_mw "ValueError.__init__" e) := Heap.get?_push_size _ rfl
  have k2 : ∀ b o, h1.get? b = some o → (h1.push (kxs_mw "ValueError.__init__" e)).get? b = some o := fun b o z => Heap.get?_push_of_some _ z
  have k02 : ∀ b o, hp.get? b = some o → (h1.push (kxs_mw "ValueError.__init__" e)).get? b = some o := fun b o z => k2 b o (k1 b o (hk b o z))
  have hns2 : (h1.push (kxs_mw "ValueError.__init__" e)).Ns hp.objs.size (fun y => ([("self", .ref e), ("number", v)] : List (Str × Value)).reverse.lookup y) := by
    obtain ⟨oL, es, ep, hL, rr⟩ := hns
    exact ⟨oL, es, ep, k2 _ _ (k1 _ _ hL), rr⟩
  have hargs : starEach [.Name "number" q4] (ksEnv qual iS hp.objs.size fI (.ref cda) cc) = (false, eval (.Name "number" q4) (ksEnv qual iS hp.objs.size fI (.ref cda) cc)) :: starEach [] (ksEnv qual iS hp.objs.size fI (.ref cda) cc) := rfl
  rw [hargs]
  refine kxs_callWith (i := "ValueError.__init__") (x := e) (u := h1.objs.size) rfl (evalArgs_plain (spliced_cons (wpAny_Name (wpAny_loadName_local rfl rfl hns2 rfl (spliced_nil ⟨hmw, ?_⟩)) (by decide))))
  have he2 : (h1.push (kxs_mw "ValueError.__init__" e)).get? e = some (excO C t0) := k2 _ _ (k1 _ _ he0)
  have hC2 := k2 _ _ (X1 _ _ hC)
  have FB := F.excBase_ValueError
  have b1 : (Value.type "method-wrapper" == Value.type "method" || Value.type "method-wrapper" == Value.type "builtin_function_or_method" || Value.type "method-wrapper" == Value.type "method-wrapper") = true := by decide
  refine wpAny_call (codeAny_of_tree (show wpAny (model prog w) _ (callAny (.ref h1.objs.size) ⟨[v], []⟩) _ _ _ from ?_))
  unfold callAny
  refine wpAny_bind (wpAny_load hmw ?_)
  simp only [kxs_mw, b1, if_true]
  refine KFB.if_so (by decide) (wpAny_bind (check_bound_init FB.toExcCallFacts hC2 he2 rfl (wpAny_bind (wpAny_pure (wpAny_pure ⟨plainId_quiet FB.init.plain _, codeAny_builtin FB.initEntry ?_⟩)))))
  refine exc_init_tree (cls := .ref C) (t0 := t0) (dv := none) (c2 := .none) (c3 := .none) (b4 := .bool false) he2 (by show 1 ≤ sizeLine; decide) (fun h3 k3 he3 ht3 => ?_)
  have X3 : K.In h3 := in_but (X.keeps k02) hnx k3
  have hns3 : h3.Ns hp.objs.size (fun y => ([("self", .ref e), ("number", v)] : List (Str × Value)).reverse.lookup y) := by
    obtain ⟨oL, es, ep, hL, rr⟩ := hns2
    exact ⟨oL, es, ep, k3 _ _ (Ne.symm heL) hL, rr⟩
  have hlt : hp.objs.size < h3.objs.size := hns3.lt
  refine wpAt_of_wpAny (wpAny_execs_cons (plainObj_wpAny_Assign_Attribute ?_))
  refine wpAny_Name (wpAny_loadName_local rfl rfl hns3 rfl (wpAny_Name (wpAny_loadName_local rfl rfl hns3 rfl ?_) (by decide))) (by decide)
  refine set_plain X3 (ox := excO C (h1.push (kxs_mw "ValueError.__init__" e)).objs.size) (od := none) ⟨he3, rfl, rfl, trivial⟩ T.sa ?_
  refine exc_osa X3 he3 hcl (show refsVE (.ref C :: bm) = true from hbm) rfl T.noN (fun h4 tk4 dx k4 dn dne he4 hn4 => ?_)
  refine wpAny_execs_nil (hq h4 tk4 dx _ ⟨fun b o nb z => k4 b o nb (k3 b o nb (k02 b o z)), he4, Nat.le_trans (Nat.le_of_lt hlt) dn, dne, hn4⟩)
/-- such an error made -/
structure SupMade (h h' : Heap) (e C d : Addr) (v : Value) : Prop where
  keep : ∀ b o, h.get? b = some o → h'.get? b = some o
  new : h.objs.size ≤ e
  obj : ∃ oe vs, h'.get? e = some oe ∧ oe.cls = .ref C ∧ oe.dict = some d ∧ oe.data = .fields vs ∧ vs[1]? = some .none
  dbig : h.objs.size ≤ d
  dne : d ≠ e
  ns : h'.Ns1 d (fun y => if y = "number" then some v else none)
theorem sup_made (T : SupTxt prog K mg x C fI) {v : Value} (X : K.In s.heap) (hlim : s.heap.NoLimit) (G : s.heap.Ns mainGlobals mg) (Bn : s.heap.Ns builtinsNs mb) (hb : mb "super" = some (.type "super")) (hroom : A.depth + 1 < recursionLimit)
    (hq : ∀ h' tk e d, SupMade s.heap h' e C d v → R (.ok (.ret (.ref e))) { s with heap := h', toks := tk }) :
    codeAny (model prog w) A (.call (.ref C) ⟨[v], []⟩) R s := by
  obtain ⟨nm, q, N, bs, bm, sn, sub, ab, col, dd, k0, k1, k2, k3, k5, hC, hbm⟩ := T.cls
  obtain ⟨hp, g, dr, tk, os⟩ := s
  have k : ∀ b o, hp.get? b = some o → ((hp.push (kdv_tup [v])).push (excO C hp.objs.size)).get? b = some o := fun b o z => Heap.get?_push_of_some _ (Heap.get?_push_of_some _ z)
  have hget : ((hp.push (kdv_tup [v])).push (excO C hp.objs.size)).get? (hp.objs.size + 1) = some (excO C hp.objs.size) := by heap_get
  have hnx : K.lookup (hp.objs.size + 1) = none := by
    cases z : K.lookup (hp.objs.size + 1) with
    | none => rfl
    | some o => exact absurd (Nat.lt_of_succ_lt (Heap.lt_size (show hp.get? (hp.objs.size + 1) = some o from X _ _ z))) (Nat.lt_irrefl _)
  refine call_own F.excBase_ValueError (fun X => refsVE_contains X bm hbm) (X _ _ hC) (looks_findIn X T.iC) (fun self => bind_fn X self T.tC) (by show 1 ≤ sizeLine; decide) ?_
  refine sup_init (s := ⟨(hp.push (kdv_tup [v])).push (excO C hp.objs.size), g, dr, tk, os⟩) T (X.keeps k) (hlim.keeps k) (G.keeps k) (Bn.keeps k) hb hget hnx (show A.depth + 1 < recursionLimit from hroom) fun h' tk' dx t1 S => ?_
  have old : ∀ b o, hp.get? b = some o → h'.get? b = some o := fun b o z => S.keep b o (Nat.ne_of_lt (Nat.lt_succ_of_lt (Heap.lt_size z))) (k b o z)
  have z : hp.objs.size + 1 + 1 ≤ dx := by
    have q := S.dbig
    first
      | exact q
      | (simpa only [Heap.size_push] using q)
  exact ⟨rfl, hq h' tk' (hp.objs.size + 1) dx ⟨old, Nat.le_succ _, ⟨_, _, S.obj, rfl, rfl, rfl, rfl⟩, Nat.le_trans (Nat.le_trans (Nat.le_succ _) (Nat.le_succ _)) z, S.dne, S.ns⟩⟩
end
end SupX
namespace L2
open PySem PySem.Spec PyProof.Rows
theorem relO_num {v : V} {v' : Value} (r : RelV v v') (f : Str) : RelO (List.lookup f [(("number" : Str), v)]) (if f = "number" then some v' else none) := by
  by_cases hw : f = "number"
  · subst hw
    rw [if_pos rfl]
    have q : List.lookup ("number" : Str) [(("number" : Str), v)] = some v := by simp [List.lookup]
    rw [q]
    exact r
  · rw [if_neg hw]
    have qw : (f == ("number" : Str)) = false := by simpa using hw
    have q2 : List.lookup f [(("number" : Str), v)] = none := by simp [List.lookup, qw]
    rw [q2]
    trivial
section
variable {X : Cx} {x : Str} {C fI : Addr}
/-- C(e), such an error -/
def tMkSup (C : Addr) (ta : TA) : L2.St → Hp → XK → Prop := fun σ H Q => ta σ H fun vs H1 => ∃ v, vs = [v] ∧ ∀ d, H1 d = none → Q (.ref C) (some d) (upd H1 d (.xd [(("number" : Str), v)]))
theorem pmk_sup {a : Expr} {ta : TA} {p pos : Pos} {k : Nat} (T : SupX.SupTxt X.prog X.K X.mg x C fI) (hr : Room k X.A) (ha : PA X [a] ta) (hg : Gl X x := by rfl) (hdb : (x == ("__debug__" : Str)) = false := by decide)
    (he : starEach (a :: []) X.env = (false, eval a X.env) :: starEach [] X.env := by rfl) (hpl : (backTo pos (starEach [] X.env)).any (·.1) = false := by rfl) :
    PMk X (.Call (.Name x p) [a] [] pos) (tMkSup C ta) := by
  intro pins s σ H Q I h
  refine wpAny_Call_Name_kw (ld_glob I hg T.gC ?_ hdb)
  refine PySem.W.callWith_K (h₀ := X.base) I.ok.mod.kin T.kC (thn (ha.run pos pins s σ H _ I h) fun us s1 hh => ?_) he hpl
  obtain ⟨vs, H1, I1, r1, v, ev, q1⟩ := hh
  subst ev
  refine ⟨I1.kIn, ?_⟩
  cases r1 with
  | cons rv rn =>
    rename_i v' us'
    cases rn
    show wpAny _ _ (call (.ref C) [v']) _ _ _
    have hlim := I1.nolimit
    obtain ⟨mb, hB, hmb⟩ := I1.ok.mod.blt
    have hG := I1.ok.mod.glob.keeps I1.bk
    have hB := hB.keeps I1.bk
    have hsup : mb "super" = some (.type "super") := (hmb "super" (by decide)).trans (by decide +kernel)
    obtain ⟨hp, g, dr, tk, os⟩ := s1
    refine wpAny_call (SupX.sup_made (s := ⟨hp, g, dr, tk, os⟩) T I1.kIn hlim hG hB hsup (by have := hr.dp; omega) fun h' tk' e d M => ?_)
    show MkP X pins σ Q (.ref e) ⟨h', g, dr, tk', os⟩
    obtain ⟨oe, fv, hoe, hc, hd, hdat, h1⟩ := M.obj
    obtain ⟨G', g1, g2⟩ := restrict h' fun b => decide (b ≠ e)
    have gk : ∀ b, b ≠ e → G'.get? b = h'.get? b := fun b hb => g1 b (decide_eq_true hb)
    have ge : G'.get? e = none := g2 e (by simp)
    have old : ∀ b o, hp.get? b = some o → G'.get? b = some o := fun b o q => (gk b (Nat.ne_of_lt (Nat.lt_of_lt_of_le (Heap.lt_size q) M.new))).trans (M.keep b o q)
    have ob : ObjOk X.prog X.w (upd H1 d (.xd [(("number" : Str), v)])) G' d (.xd [(("number" : Str), v)]) := ⟨_, M.ns.at (fun o q => (gk d M.dne).trans q), fun f => relO_num rv f⟩
    have J : Inv X pins σ (upd H1 d (.xd [(("number" : Str), v)])) ⟨G', g, dr, tk', os⟩ := I1.laid (t' := tk') old M.dbig ob
    refine ⟨e, oe, fv, ⟨G', g, dr, tk', os⟩, _, .ref C, some d, rfl, J, fun b o q => ?_, ge, hoe, ⟨hc, hd⟩, hdat, h1, ?_, rfl, I1.bare, raises_own T.exC T.tyC, q1 d (I1.hok.fresh M.dbig)⟩
    · by_cases hb : b = e
      · have q' : G'.get? b = some o := q
        rw [hb, ge] at q'; cases q'
      · exact (gk b hb).symm.trans q
    · rw [upd_ne (Ne.symm M.dne)]
      exact I1.hok.fresh M.new
end
end L2

set_option Elab.async false
set_option linter.all false
set_option maxRecDepth 100000
set_option maxHeartbeats 4000000
/-! try: .. with several clauses «except C as n», n one and the same name; a raise of the errors of Bx; their field read in a suite. -/
namespace L2
open PySem PySem.Spec PyProof.Rows
/-- behind a suite with a name: the name's slot is empty again -/
def endsAs (D : Ends) (i : Nat) : Ends :=
  { nx := fun τ G => D.nx (τ.set i none) G, rt := D.rt, bk := fun τ G => D.bk (τ.set i none) G, ct := fun τ G => D.ct (τ.set i none) G }
/-- what the clauses wish of an error of the body, one after the other; slot i is the name's -/
def wMas (K : PySem.W.Frag) (i : Nat) (Wout : WX) (D : Ends) : List (Value × (Addr → Value → Option Addr → TS)) → WX
  | [] => Wout
  | (c, ts) :: r => fun cls d τ G => ∃ b, PySem.W.exmOne K cls c = some b ∧
      (b = true → ∀ a, G a = none → ts a cls d (endsAs D i) (τ.set i (some (.ref a))) G) ∧ (b = false → wMas K i Wout D r cls d τ G)
inductive HdsAs (X : Cx) (n : Str) : List ExceptHandler → List (Value × (Addr → Value → Option Addr → TS)) → Prop
  | nil : HdsAs X n [] []
  | cons {x : Str} {c : Value} {ts : Addr → Value → Option Addr → TS} {first : Stmt} {suite : List Stmt} {np hpos : Pos} {more : List ExceptHandler} {l : List (Value × (Addr → Value → Option Addr → TS))}
      (named : Names X x c)
      (body : ∀ (a : Addr) (oe : Obj) (cls : Value) (d : Option Addr) (pn : List (Addr × Obj)), Zc cls d oe → (∃ vs, oe.data = .fields vs) → PSs (X.suite a ((a, oe) :: pn)) (first :: suite) (ts a cls d))
      (rest : HdsAs X n more l) : HdsAs X n (.ExceptHandler (some (.Name x np)) (some n) (first :: suite) hpos :: more) ((c, ts) :: l)
section
variable {X : Cx} {n : Str} {i : Nat} {body : List Stmt} {one : ExceptHandler} {more : List ExceptHandler} {l : List (Value × (Addr → Value → Option Addr → TS))} {pos : Pos} {tb : WX → TS} {Wout : WX}
theorem ps_try_mas (hst : X.stack = X.env :: X.outer) (hfr : X.env.frame = some X.env.locals) (nd : X.N.Nodup) (hi : X.N[i]? = some n) (hln : X.env.kindOf n = some .local) (tk : Takes X Wout)
    (hbody : ∀ (W : WX) (pn : List (Addr × Obj)) (xe : Value → Shared → Prop), Takes (X.tr pn xe) W → PassesOwn (model X.prog X.w) X.A X.env xe → PSs (X.tr pn xe) body (tb W))
    (hh : HdsAs X n (one :: more) l) : PS X (.Try body (one :: more) [] [] pos) (fun D τ G => tb (wMas X.K i Wout D l) D τ G) := by
  refine ⟨fun pins s τ G D I w0 => wpAny_Try_except ?_⟩
  have ok := I.ok
  have hframes : X.A.frames = some (X.env :: X.outer) := by rw [ok.frames, hst]
  have hloc : Loc X.env.scope n := .inl hln
  have ran := (hbody (wMas X.K i Wout D l) (X.pn ++ pins)
    (fun er t1 => wpAny (model X.prog X.w) X.A (noteFrame er X.env) (fun _ t2 => wpAny (model X.prog X.w) X.A (setFlight er none) (fun _ t3 => wpAny (model X.prog X.w) X.A (handleBy er X.env (one :: more)) (SP X pins D) X.xe t3) X.xe t2) X.xe t1)
    (fun u s' xx => ?_) PassesOwn.looking).run [] s τ G D (I.toTry _) w0
  · refine wpAny_mono ran (fun fl t1 hsp => ?_) fun er t1 z => z
    cases fl with
    | next => exact let ⟨τ', G', J, q⟩ := hsp; wpAny_execs_nil ⟨τ', G', J.ofTry ok, q⟩
    | brk => exact let ⟨τ', G', J, q⟩ := hsp; ⟨τ', G', J.ofTry ok, q⟩
    | cont => exact let ⟨τ', G', J, q⟩ := hsp; ⟨τ', G', J.ofTry ok, q⟩
    | ret u => exact let ⟨v, τ', G', J, r, q⟩ := hsp; ⟨v, τ', G', J.ofTry ok, r, q⟩
  · obtain ⟨a, Bs, sI, pins', τ', G', cls, d, rfl, J', nb, up, sky, na, os, ag, wish⟩ := xx
    have J : Inv X pins τ' G' sI := J'.ofTry ok
    have sky2 : Sky Bs (X.env :: X.outer) a (Zc cls d) X.env.locals s'.heap := by rw [← hst]; exact sky
    show wpAny _ X.A (noteFrame (.ref a) X.env) _ _ _
    refine Sky.land Zc.steady hframes hfr sky2 fun h3 fl3 up3 => ?_
    have J3 : Inv X pins τ' G' { s' with heap := h3 } := J.landed nb fl3.1 (up.trans up3) os ag
    obtain ⟨oe3, vs3, at3, z3, dat3⟩ := fl3.there
    have out : a ∉ frs (X.env :: X.outer) := fun hm => by
      obtain ⟨_, o', e', no⟩ := fl3.2.2.1.mem hm
      rw [at3] at e'; cases e'
      exact no _ dat3
    have outL : a ≠ X.env.locals := fun z => out (List.mem_filterMap.mpr ⟨X.env, List.mem_cons_self, by rw [hfr, z]⟩)
    have outF : a ∉ X.fs := fun hm => by
      obtain ⟨en, hen, q⟩ := List.mem_filterMap.mp hm
      exact out (List.mem_filterMap.mpr ⟨en, List.mem_cons_of_mem _ hen, q⟩)
    have S3 := J3.suite at3 dat3 na outL outF
    have walk : ∀ {hs : List ExceptHandler} {ls : List (Value × (Addr → Value → Option Addr → TS))}, HdsAs X n hs ls → wMas X.K i Wout D ls cls d τ' G' →
        wpAny (model X.prog X.w) X.A (handleBy (.ref a) X.env hs) (SP X pins D) X.xe { s' with heap := h3 } := by
      intro hs ls hk
      induction hk with
      | nil =>
        intro wish
        refine wpAny_handleBy_nil ?_
        obtain ⟨_, _, _, oe, vs, T, oT, ts', at', _, dat', at1, _⟩ := id fl3
        have off : wpAny (model X.prog X.w) X.A (setFlight (.ref a) X.env.frame) (fun _ t4 => wpAny (model X.prog X.w) X.A (throw (.ref a) : Sem Flow) (SP X pins D) X.xe t4) X.xe { s' with heap := h3 } := by
          rw [hfr]
          exact HandSPX.setFlight_upZ fl3 fun h4 hi4 up4 => wpAny_throw (tk _ _ ⟨a, Bs, sI, pins, τ', G', cls, d, rfl, J, nb, (up.trans up3).trans up4, .inr (.inr (by rw [hst]; exact hi4)), na, os, ag, wish⟩)
        unfold PySem.passOn
        refine wpAny_bind (wpAny_field at' dat' at1 ?_)
        rw [if_neg (show ¬ ((Value.ref T == Value.none) = true) by simp)]
        first
          | exact wpAny_bind (wpAny_pure (wpAny_bind off))
          | exact wpAny_bind off
      | @cons x c ts fs suite np hpos hs2 l2 named hsuite rest ih =>
        intro wish
        obtain ⟨b, hb1, yes, no⟩ := wish
        refine wpAny_handleBy_cons (codeAny_handlers_test ?_) (by intro q; cases q)
        have lookT : PySem.W.Looks (model X.prog X.w) h3 (typeOf (.ref a)) cls := fun A Q E t k q => wpAny_typeOf_ref (k _ _ at3) (by rw [z3.1]; exact q)
        have lookM := PySem.W.exm_one (M := model X.prog X.w) J3.kIn lookT hb1
        have asked : ∀ {Q : Value → Shared → Prop} {E : Value → Shared → Prop}, Q c { s' with heap := h3 } → wpAny (model X.prog X.w) (X.A.mark (some (.ref a))) (eval (.Name x np) X.env) Q E { s' with heap := h3 } := fun {Q E} q => by
          obtain ⟨hg, hdbg, hm | ⟨hm, hv, hnn⟩⟩ := named
          · exact ld_glob (X := X.suite a ((a, oe3) :: (X.pn ++ pins))) S3 hg hm q hdbg
          · exact ld_blt (X := X.suite a ((a, oe3) :: (X.pn ++ pins))) S3 hg hm hv q hnn hdbg
        refine asked (lookM.here ?_)
        cases b with
        | false => exact ih (no rfl)
        | true =>
          refine codeAny_handlers_suite_as (HandSPX.lands_againZ fl3 fun h4 fl4 up4 => ?_)
          have J4 : Inv X pins τ' G' { s' with heap := h4 } := J.landed nb fl4.1 ((up.trans up3).trans up4) os ag
          obtain ⟨oe4, vs4, at4, z4, dat4⟩ := fl4.there
          have S4 := J4.suite at4 dat4 na outL outF
          refine store_ok (X := X.suite a ((a, oe4) :: (X.pn ++ pins))) (v := .ref a) S4 nd hi hloc rfl (fun t5 S5 => ?_) (.inr hln)
          have run := (hsuite a oe4 cls d (X.pn ++ pins) z4 ⟨_, dat4⟩).run [] t5 _ G' _ S5 (yes rfl a na)
          refine wpAny_mono run (fun fl t6 hsp => ?_) fun _ _ z => z.elim
          have fin : ∀ {τ6 : St} {G6 : Hp} {Q : Shared → Prop}, Inv (X.suite a ((a, oe4) :: (X.pn ++ pins))) [] τ6 G6 t6 → (∀ t7, Inv X pins (τ6.set i none) G6 t7 → Q t7) →
              wpAny (model X.prog X.w) X.A (do bindName X.env n .none; unbindBehindTheSuite X.env n hpos) (fun _ t7 => Q t7) X.xe t6 := fun {τ6 G6 Q} S6 hq => gone_ok (S6.unsuite ok) nd hi hln hq
          cases fl with
          | next => exact let ⟨_, _, S6, q6⟩ := hsp; fin S6 fun t7 J7 => ⟨_, _, J7, q6⟩
          | brk => exact let ⟨_, _, S6, q6⟩ := hsp; fin S6 fun t7 J7 => ⟨_, _, J7, q6⟩
          | cont => exact let ⟨_, _, S6, q6⟩ := hsp; fin S6 fun t7 J7 => ⟨_, _, J7, q6⟩
          | ret u => exact let ⟨_, _, _, S6, r6, q6⟩ := hsp; fin S6 fun t7 J7 => ⟨_, _, _, J7, r6, q6⟩
    exact walk hh wish
end
/-! ### raise C(e) -/
section
variable {X : Cx} {x : Str} {C fI : Addr}
def tRaiseSup (C : Addr) (W : WX) (ta : TA) : TS := fun _ τ G => tMkSup C ta τ G fun cls d G' => W cls d τ G'
theorem ps_raiseSup {a : Expr} {ta : TA} {W : WX} {p pos pos2 : Pos} {k : Nat} (hc : X.calm = true) (T : SupX.SupTxt X.prog X.K X.mg x C fI) (hr : Room k X.A) (tk : Takes X W) (ha : PA X [a] ta) (hg : Gl X x := by rfl) (hdb : (x == ("__debug__" : Str)) = false := by decide)
    (he : starEach (a :: []) X.env = (false, eval a X.env) :: starEach [] X.env := by rfl) (hpl : (backTo pos (starEach [] X.env)).any (·.1) = false := by rfl) :
    PS X (.Raise (some (.Call (.Name x p) [a] [] pos)) none pos2) (tRaiseSup C W ta) := ps_raise hc tk (pmk_sup T hr ha hg hdb he hpl)
end
end L2
namespace G3
open PySem PySem.Spec PyProof.Rows L2
/-- the same of a def that may raise -/
theorem has_ofX {P : Program} {w : World} {K : PySem.W.Frag} {mg : Str → Option Value} {base : Heap} {k : Nat} {x nm : Str} {ps : List Str} {sp : Sp} {st : Stmt} {N : List Str} (D : DefAt K mg x nm st) (S : FnScope N ps (defScope st))
    (hb : ∀ (kV doc pm : Value) (an : Option Addr) (cdv ct : Value) (us : List Value), us.length = ps.length → bindArgs (PySem.W.fnOf nm nm (defArgs st) (defBody st) (defScope st) .none kV doc pm an cdv ct) ⟨us, []⟩ = pure (ps.zip us))
    (len : ∀ vs H Q E, sp vs H Q E → vs.length = ps.length)
    (hbody : ∀ (f : Addr) (cdv : Value) (A : Around) (outer : List Env) (s : Shared) (H : Hp) (vs : List V) (Q : VK) (E : XK), Room k (A.deeper (envOfC nm (defScope st) s.heap.objs.size f cdv)) → sp vs H Q E →
      ∃ t, PSs (cxOf (L2.CX P w) P w K mg base N nm (defScope st) f cdv A outer s H E) (defBody st) t ∧ t { nx := fun _ H' => Q .non H', rt := Q } (start N vs) H) : Has P w K mg base (L2.CX P w) (k + 1) x ps sp := by
  obtain ⟨f, fd, F, m⟩ := D
  exact ⟨f, fd, F.okX S len (fun cdv A outer s H vs Q E hr hs => hbody f cdv A outer s H vs Q E hr hs), m, F.kp, F.binds hb⟩
/-- a call of a def that may raise, E σ what is wanted of the error -/
theorem pe_hS {X : Cx} {CX : CXT} {k j : Nat} {x : Str} {ps : List Str} {sp : Sp} {E : L2.St → XK} {p pos : Pos} {e : Expr} {es : List Expr} {t : TA} (h : Has X.prog X.w X.K X.mg X.base CX k x ps sp) (hr : Room j X.A) (hx : ∀ σ, PassesAt CX X σ (E σ))
    (ha : PA X (e :: es) t) (hk : k ≤ j := by first | decide | omega) (hg : Gl X x := by rfl) (hdb : (x == ("__debug__" : Str)) = false := by decide) (he : starEach (e :: es) X.env = (false, eval e X.env) :: starEach es X.env := by rfl)
    (hpl : (backTo pos (starEach es X.env)).any (·.1) = false := by rfl) : PE X (.Call (.Name x p) (e :: es) [] pos) (tCallS sp E t) := by
  obtain ⟨f, fd, F, m, kp, b⟩ := h
  exact pe_callS F (hr.mono hk) hg m kp b hx ha hdb he hpl
end G3

set_option Elab.async false
set_option linter.all false
set_option maxRecDepth 100000
set_option maxHeartbeats 4000000
/-! Rows that are lists or tuples: walked, walked with their numbers; a < b < c < d. -/
namespace G3
open PySem PySem.Spec PyProof.Rows L2
/-! ### for x in row -/
def iRow (K : PySem.W.Frag) (tl : TE) : TI := fun σ H R => tl σ H fun x H1 => ∃ a, x = .ref a ∧ (((∃ xs, SqL K H1 a xs) ∧ R (Itl K a) H1) ∨ ((∃ xs, SqT K H1 a xs) ∧ R (Itt K a) H1))
theorem pi_row {X : Cx} {K : PySem.W.Frag} (hK : X.K = K) {tg l : Expr} {tl : TE} (hl : PE X l tl) : PI X tg l (iRow K tl) := by
  subst hK
  refine ⟨fun pins s σ H R I h => thn (hl.run pins s σ H _ I h) fun v s1 ⟨x, H1, I1, r1, a, ex, q⟩ => ?_⟩
  subst ex
  obtain rfl : v = Value.ref a := r1
  have own : ∀ b ∈ [s1.heap.objs.size], FpOk X pins H1 b := fun b hb => by
    rw [List.mem_singleton.mp hb]
    exact I1.fpOk (Nat.le_refl _) (I1.hok.fresh (Nat.le_refl _))
  rcases q with ⟨⟨xs, hq⟩, q⟩ | ⟨⟨xs, hq⟩, q⟩
  · obtain ⟨its, rv, p, hz⟩ := I1.list hq
    exact wpAny_pyIter_list p.isList ⟨_, [s1.heap.objs.size], _, _, H1, rfl, I1.kept (t' := s1.toks) fun b o z => Heap.get?_push_of_some _ z, turn_list a _, ⟨_, Heap.get?_push_size _ rfl, rfl, rfl⟩, own, q⟩
  · obtain ⟨its, rv, p, hz⟩ := I1.tuple hq
    exact wpAny_pyIter_tuple (show s1.heap.IsTuple a its.toArray from p) ⟨_, [s1.heap.objs.size], _, _, H1, rfl, I1.kept (t' := s1.toks) fun b o z => Heap.get?_push_of_some _ z, turn_tuple a _, ⟨_, Heap.get?_push_size _ rfl, rfl, rfl⟩, own, q⟩
theorem seqL_at {K : PySem.W.Frag} {H H' : Hp} {a : Addr} {xs : List V} (k : ∀ o, H a = some o → H' a = some o) (h : SqL K H a xs) : SqL K H' a xs := by
  rcases h with (h | ⟨o, h⟩) | h
  · exact .inl (.inl (k _ h))
  · exact .inl (.inr ⟨o, k _ h⟩)
  · exact .inr h
theorem seqT_at {K : PySem.W.Frag} {H H' : Hp} {a : Addr} {xs : List V} (k : ∀ o, H a = some o → H' a = some o) (h : SqT K H a xs) : SqT K H' a xs := by
  rcases h with (h | ⟨o, h⟩) | h
  · exact .inl (.inl (k _ h))
  · exact .inl (.inr ⟨o, k _ h⟩)
  · exact .inr h
/-- the walk of a row, list or tuple, that the loop leaves as it is -/
theorem for_row {K : PySem.W.Frag} {a : Addr} {xs : List V} {g : TG} {tb : TS} {D : Ends} {σ : L2.St} {H0 H : Hp} (hr : SqL K H0 a xs ∨ SqT K H0 a xs) (Pv : Nat → L2.St → Hp → Prop) (h0 : Pv 0 σ H)
    (keep : ∀ i σ' H', Pv i σ' H' → ∀ o, H0 a = some o → H' a = some o)
    (turn : ∀ i x σ' H', xs[i]? = some x → Pv i σ' H' → g x σ' H' fun σ2 H2 => tb { D with nx := Pv (i + 1), ct := Pv (i + 1), bk := D.nx } σ2 H2) (after : ∀ σ' H', Pv xs.length σ' H' → D.nx σ' H') :
    ((∃ ys, SqL K H a ys) ∧ (∃ W : Nat → Nat → L2.St → Hp → Prop, (∃ m, W 0 m σ H) ∧ ∀ i m σ H, W i m σ H → ((Itl K a).stop i H ∧ D.nx σ H) ∨ ((Itl K a).go i H ∧ ∃ N : L2.St → Hp → Prop, (∀ σ' H', N σ' H' → ∃ m', m' < m ∧ W (i + 1) m' σ' H') ∧ ∀ x H', (Itl K a).yld i H x H' → g x σ H' fun σ2 H2 => tb { D with nx := N, ct := N, bk := D.nx } σ2 H2))) ∨
    ((∃ ys, SqT K H a ys) ∧ (∃ W : Nat → Nat → L2.St → Hp → Prop, (∃ m, W 0 m σ H) ∧ ∀ i m σ H, W i m σ H → ((Itt K a).stop i H ∧ D.nx σ H) ∨ ((Itt K a).go i H ∧ ∃ N : L2.St → Hp → Prop, (∀ σ' H', N σ' H' → ∃ m', m' < m ∧ W (i + 1) m' σ' H') ∧ ∀ x H', (Itt K a).yld i H x H' → g x σ H' fun σ2 H2 => tb { D with nx := N, ct := N, bk := D.nx } σ2 H2))) := by
  rcases hr with h | h
  · exact .inl ⟨⟨_, seqL_at (keep 0 _ _ h0) h⟩, for_list (K := K) (a := a) (xs := xs) Pv h0 (fun i σ' H' _ p => seqL_at (keep i σ' H' p) h) turn after⟩
  · exact .inr ⟨⟨_, seqT_at (keep 0 _ _ h0) h⟩, for_tup (K := K) (a := a) (xs := xs) Pv h0 (fun i σ' H' _ p => seqT_at (keep i σ' H' p) h) turn after⟩

/-! ### for i, x in enumerate(row) -/
/-- the tuple at a as it stands at each turn, each item in a new pair with its number -/
def Ieu (K : PySem.W.Frag) (a : Addr) : It where
  go := fun i H => ∃ (xs : List V) (x : V), SqT K H a xs ∧ xs[i]? = some x
  yld := fun i H v H' => ∃ T x, v = .ref T ∧ H T = none ∧ H' = upd H T (.tup [.int (i : Nat), x]) ∧ ∀ xs, SqT K H a xs → xs[i]? = some x
  stop := fun i H => ∃ xs : List V, SqT K H a xs ∧ xs.length ≤ i
theorem turn_enumU {P : Program} {w : World} {K : PySem.W.Frag} {elts : List Expr} {kk : Nat} {tpos : Pos} (a e it : Addr) :
    Turn P w K (.Tuple elts kk tpos) (Ieu K a) [e, it] e (fun i h => (∃ old, IsEnum h e it ((i : Nat) : Int) old) ∧ h.IsTupleIter it a i ∧ e ≠ it) where
  mem := by simp
  obj := fun i h st b hb => by
    obtain ⟨⟨old, he⟩, ⟨o, ho, hc, hd⟩, _⟩ := st
    rcases (show b = e ∨ b = it by simpa using hb) with z | z
    · exact z ▸ ⟨_, he, fun v q => nomatch q⟩
    · exact z ▸ ⟨o, ho, fun v q => by rw [hd] at q; cases q⟩
  keep := fun i h h' st k => let ⟨⟨old, he⟩, hi, hne⟩ := st; ⟨⟨old, k e (by simp) _ he⟩, hi.at fun o q => k it (by simp) o q, hne⟩
  item := by
    intro X hP hw hK hc i pins s σ H E I hf st hg
    subst hP hw hK
    obtain ⟨⟨old, he⟩, hit, hne⟩ := st
    obtain ⟨xs, x, hq, hx⟩ := hg
    obtain ⟨its, rv, p, hz⟩ := I.tuple hq
    obtain ⟨u, hu, ru⟩ := rv.get hx
    have hel := Heap.lt_size he
    have hil : it < s.heap.objs.size := let ⟨_, q, _⟩ := hit; Heap.lt_size q
    have nai : a ≠ it := fun z => by
      obtain ⟨o1, h1, c1, _⟩ := hit
      obtain ⟨o2, h2, c2, _⟩ := p
      rw [z, h1] at h2
      cases h2
      rw [c1] at c2
      exact absurd c2 (by decide)
    have nae : e ≠ a := fun z => by
      obtain ⟨o2, h2, c2, _⟩ := p
      rw [← z, he] at h2
      cases h2
      exact absurd (show Value.type "enumerate" = Value.type "tuple" from c2) (by decide)
    have hlt : i < its.toArray.size := by
      have := (List.getElem?_eq_some_iff.mp hu).1
      simpa using this
    refine wpAny_pyNext_enum_itemD (Draws.tuple (w := X.w) (A := X.A.in1) (I.ok.hd hc) it a nai its.toArray) he ⟨hit, (show s.heap.IsTuple a its.toArray from p)⟩ hlt hne (by simp [hne, nae]) fun y h' tk hy ho hst hT hsz hk => ?_
    have ey : u = y := by
      have z : its[i]? = some y := by simpa using hy
      exact Option.some.inj (hu.symm.trans z)
    subst ey
    refine ⟨_, rfl, wpAny_letOwnedTupleGo_enum (s := { s with heap := h', toks := tk + 1 }) ho fun h'' he' sb => ?_⟩
    have hT2 : h''.get? s.heap.objs.size = some { cls := .type "tuple", data := .seq #[.int i tk, u] } := (sb.2 _ (Nat.ne_of_gt hel)).trans hT
    have laid : ObjOk X.prog X.w (upd H s.heap.objs.size (.tup [.int (i : Nat), x])) h'' s.heap.objs.size (.tup [.int (i : Nat), x]) :=
      ⟨by show 2 ≤ sizeLine; decide, [.int i tk, u], .cons ⟨_, rfl⟩ (.cons ru .nil), ⟨_, hT2, rfl, _, rfl⟩⟩
    have I1 : Inv X pins σ (upd H s.heap.objs.size (.tup [.int (i : Nat), x])) { s with heap := h'', toks := tk + 1 } :=
      I.turnedNew (ch := [e, it]) (fun b ob hb q => (sb.2 b (fun z => hb (by simp [z]))).trans (hk b ob (fun z => hb (by simp [z])) (fun z => hb (by simp [z])) q)) hf (Nat.le_refl _) laid
    refine ⟨.ref s.heap.objs.size, _, I1, rfl, ⟨_, x, rfl, I.hok.fresh (Nat.le_refl _), rfl, fun ys hy => by rw [I.tuple_inj hy hq]; exact hx⟩, ⟨⟨u, ?_⟩, hst.1.at fun o q => (sb.2 it (Ne.symm hne)).trans q, hne⟩, fun b hb => ?_⟩
    · have e1 : ((i + 1 : Nat) : Int) = (i : Int) + 1 := by omega
      exact e1 ▸ he'
    · have hb' : b < s.heap.objs.size := by
        rcases (show b = e ∨ b = it by simpa using hb) with z | z
        · exact z ▸ hel
        · exact z ▸ hil
      rw [upd_ne (Nat.ne_of_lt hb')]
      exact (hf b hb).1
  done := by
    intro X hP hw hK hc i pins s σ H E I hf st hg
    subst hP hw hK
    obtain ⟨⟨old, he⟩, hit, hne⟩ := st
    obtain ⟨xs, hq, hx⟩ := hg
    obtain ⟨its, rv, p, hz⟩ := I.tuple hq
    obtain ⟨f0, f1, f2, f3, f4, f5⟩ := hf it (by simp)
    have hl := rv.length
    have hT : s.TypeIs (.ref e) "enumerate" := ⟨_, he, rfl⟩
    unfold pyNext
    refine wpAny_bind (wpAny_attempt (wpAny_callSpecial?_slot (name := Str.ofString "__next__") hT F.slot_enumerate_next (wpAny_call_entry F.slot_enumerate_next hT F.entry_enumerate_next ?_ (F.args_enumerate_next_1 _))))
    show wpAny _ _ (field (.ref e) 2 >>= _) _ _ _
    refine wpAny_bind (wpAny_field he rfl (x := .ref it) rfl (wpAny_bind (wpAny_nextOf_tuple_end (A := X.A.in1) (I.ok.hd hc) hit (show s.heap.IsTuple a its.toArray from p) (by simp; omega) fun h' x' he' hx' => ?_)))
    obtain ⟨o, ho, hcc⟩ := hx'
    refine wpAny_bind (wpAny_isInstance (T := "StopIteration") (b := true) ⟨o, ho, hcc⟩ isSubtype_stop (wpAny_pure ⟨rfl, I.turned (t' := s.toks) (fun b o hb q => he' b o hb q) f0 f1 f3 f4 f5⟩))
  self := fun A i s Q E st h => let ⟨⟨_, he⟩, _⟩ := st; wpAny_pyIter_enum he h

end G3
namespace PySem
open Sem (wp)
theorem meets_enumerate_new1 {v : Value} {o : Obj} {Hh : Heap → Prop} (B : Begins v o Hh) :
    Meets (Builtin.«enumerate.__new__» ⟨[.type "enumerate", v], []⟩) (fun _ R s => Hh s.heap ∧
      R (.ok (.ret (.ref (s.heap.push o).objs.size))) { s with heap := (s.heap.push o).push { cls := .type "enumerate", data := .fields #[.none, .bool false, .ref s.heap.objs.size, rawInt 0, .none, .none] } }) :=
  .of_wp fun prog w A R s h => by
    obtain ⟨hp, g, d, tk, os⟩ := s; obtain ⟨h1, h⟩ := h
    have hsub := sub_enumerate
    have q1 : ∀ {A' : Around} {E : Value → Shared → Prop} {Q : Value → Shared → Prop}, Q (.ref hp.objs.size) ⟨hp.push o, g, d, tk, os⟩ → wpAny (model prog w) A' (pyIter v) Q E ⟨hp, g, d, tk, os⟩ :=
      fun q => B.iter prog w _ _ ⟨hp, g, d, tk, os⟩ _ h1 q
    wp_walk using q1
    refine wpAny_stack_any fun st => wpAny_pure ?_
    split
    · rename_i c _ _ _ _ _
      cases (c == Value.type "enumerate")
      · wp_walk using q1
        exact ⟨_, rfl, h⟩
      · wp_walk using q1
        exact ⟨_, rfl, h⟩
    · wp_walk using q1
      exact ⟨_, rfl, h⟩
section
variable {prog : Program} {w : World} {A : Around} {E : Value → Shared → Prop} {s : Shared}
theorem enum_begins1 {v : Value} {o : Obj} {Hh : Heap → Prop} {Q : Value → Shared → Prop} (B : Begins v o Hh) (h1 : Hh s.heap)
    (h : ∀ h', IsEnum h' (s.heap.objs.size + 1) s.heap.objs.size 0 .none → h'.get? s.heap.objs.size = some o → h'.objs.size = s.heap.objs.size + 2 →
      (∀ b o, s.heap.get? b = some o → h'.get? b = some o) → Q (.ref (s.heap.objs.size + 1)) { s with heap := h' }) :
    wpAny (model prog w) A (call (.type "enumerate") [v]) Q E s := by
  refine callType_new F.called_enumerate (by decide) (F.typeCall_enumerate_1 _) (F.newCall_enumerate_1 _) (fun obj => F.args_object_init_2 obj _) F.entry_enumerate_new
    (meets_enumerate_new1 B) ⟨h1, ?_⟩
  have hz : (s.heap.push o).objs.size = s.heap.objs.size + 1 := Heap.size_push ..
  show _ ∧ _
  rw [hz]
  have he : IsEnum ((s.heap.push o).push { cls := .type "enumerate", data := .fields #[.none, .bool false, .ref s.heap.objs.size, rawInt 0, .none, .none] }) (s.heap.objs.size + 1) s.heap.objs.size 0 .none := by
    have := Heap.get?_push_size (s.heap.push o) (o := { cls := .type "enumerate", data := .fields #[.none, .bool false, .ref s.heap.objs.size, rawInt 0, .none, .none] }) rfl
    rw [hz] at this; exact this
  refine ⟨⟨_, he, rfl⟩, h _ he (Heap.get?_push_of_some _ (Heap.get?_push_size _ B.free)) (by rw [Heap.size_push, hz]) fun b o x => Heap.get?_push_of_some _ (Heap.get?_push_of_some _ x)⟩
end
end PySem
namespace G3
open PySem PySem.Spec PyProof.Rows L2
def iEnumR (K : PySem.W.Frag) (ta : TA) : TI := fun σ H R => ta σ H fun vs H1 => ∃ a, vs = [.ref a] ∧ (((∃ xs, SqL K H1 a xs) ∧ R (Ite K a) H1) ∨ ((∃ xs, SqT K H1 a xs) ∧ R (Ieu K a) H1))
theorem pi_enumR {X : Cx} {K : PySem.W.Frag} (hK : X.K = K) {e : Expr} {ta : TA} {p pos tpos : Pos} {elts : List Expr} {kk : Nat} (hg : Gl X "enumerate") (hm : X.mg "enumerate" = none) (ha : PA X [e] ta) (hs : starEach [e] X.env = [(false, eval e X.env)] := by rfl) :
    PI X (.Tuple elts kk tpos) (.Call (.Name "enumerate" p) [e] [] pos) (iEnumR K ta) := by
  subst hK
  refine ⟨fun pins s σ H R I h => ?_⟩
  refine Call_ (ld_blt I hg hm boot_enumerate (PyProof.Rows.callWith_type1 (thn (ha.run pos pins s σ H _ I h) fun us s1 ⟨vs, H1, I1, r1, q1⟩ => ?_) hs rfl))
  obtain ⟨a, ex, q⟩ := q1
  subst ex
  cases r1 with
  | cons r rr =>
    cases rr
    cases r
    have fresh : ∀ b ∈ [s1.heap.objs.size + 1, s1.heap.objs.size], FpOk X pins H1 b := fun b hb => by
      have e' : b = s1.heap.objs.size + 1 ∨ b = s1.heap.objs.size := by simpa using hb
      have hle : s1.heap.objs.size ≤ b := by
        rcases e' with z | z
        · rw [z]; exact Nat.le_add_right _ _
        · rw [z]; exact Nat.le_refl _
      exact I1.fpOk hle (I1.hok.fresh hle)
    rcases q with ⟨⟨xs, hq⟩, q⟩ | ⟨⟨xs, hq⟩, q⟩
    · obtain ⟨its, rv, p', hz⟩ := I1.list hq
      refine call_enumerate_list p'.isList fun h' he hit hsz hk => wpAny_pyIter_enum he ?_
      have I2 : Inv X pins σ H1 { s1 with heap := h' } := I1.kept (t' := s1.toks) hk
      exact ⟨s1.heap.objs.size + 1, [s1.heap.objs.size + 1, s1.heap.objs.size], _, _, H1, rfl, I2, turn_enum a (s1.heap.objs.size + 1) s1.heap.objs.size, ⟨⟨.none, he⟩, hit, Nat.succ_ne_self _⟩, fresh, q⟩
    · obtain ⟨its, rv, p', hz⟩ := I1.tuple hq
      refine enum_begins1 (begins_tuple a its.toArray) (show s1.heap.IsTuple a its.toArray from p') fun h' he hit hsz hk => wpAny_pyIter_enum he ?_
      have I2 : Inv X pins σ H1 { s1 with heap := h' } := I1.kept (t' := s1.toks) hk
      exact ⟨s1.heap.objs.size + 1, [s1.heap.objs.size + 1, s1.heap.objs.size], _, _, H1, rfl, I2, turn_enumU a (s1.heap.objs.size + 1) s1.heap.objs.size, ⟨⟨.none, he⟩, ⟨_, hit, rfl, rfl⟩, Nat.succ_ne_self _⟩, fresh, q⟩
/-- for i, x in enumerate(list) -/
theorem for_enL {K : PySem.W.Frag} {a : Addr} {xs : List V} {g : TG} {tb : TS} {D : Ends} {σ : L2.St} {H : Hp} (Pv : Nat → L2.St → Hp → Prop) (h0 : Pv 0 σ H) (hl : ∀ i σ H, i ≤ xs.length → Pv i σ H → SqL K H a xs)
    (hs : ∀ (i : Nat) x (T : Addr) σ H, xs[i]? = some x → Pv i σ H → H T = none → g (.ref T) σ (upd H T (.tup [.int (i : Nat), x])) fun σ2 H2 => tb { D with nx := Pv (i + 1), ct := Pv (i + 1), bk := D.nx } σ2 H2) (hd : ∀ σ H, Pv xs.length σ H → D.nx σ H) :
    ∃ W : Nat → Nat → L2.St → Hp → Prop, (∃ m, W 0 m σ H) ∧ ∀ i m σ H, W i m σ H →
      ((Ite K a).stop i H ∧ D.nx σ H) ∨ ((Ite K a).go i H ∧ ∃ N : L2.St → Hp → Prop, (∀ σ' H', N σ' H' → ∃ m', m' < m ∧ W (i + 1) m' σ' H') ∧ ∀ x H', (Ite K a).yld i H x H' → g x σ H' fun σ2 H2 => tb { D with nx := N, ct := N, bk := D.nx } σ2 H2) := by
  refine ⟨fun i m σ H => m = xs.length - i ∧ i ≤ xs.length ∧ Pv i σ H, ⟨xs.length, by simp, Nat.zero_le _, h0⟩, ?_⟩
  rintro i m σ H ⟨rfl, hi, p⟩
  have q := hl i σ H hi p
  by_cases hlt : i < xs.length
  · refine .inr ⟨⟨xs, xs[i], q, by simp [hlt]⟩, Pv (i + 1), fun σ' H' p' => ⟨xs.length - (i + 1), by omega, rfl, hlt, p'⟩, fun x H' y => ?_⟩
    obtain ⟨T, x, rfl, nT, rfl, y⟩ := y
    exact hs i x T σ _ (y xs q) p nT
  · have e : i = xs.length := by omega
    subst e
    exact .inl ⟨⟨xs, q, Nat.le_refl _⟩, hd σ H p⟩
theorem for_enT {K : PySem.W.Frag} {a : Addr} {xs : List V} {g : TG} {tb : TS} {D : Ends} {σ : L2.St} {H : Hp} (Pv : Nat → L2.St → Hp → Prop) (h0 : Pv 0 σ H) (hl : ∀ i σ H, i ≤ xs.length → Pv i σ H → SqT K H a xs)
    (hs : ∀ (i : Nat) x (T : Addr) σ H, xs[i]? = some x → Pv i σ H → H T = none → g (.ref T) σ (upd H T (.tup [.int (i : Nat), x])) fun σ2 H2 => tb { D with nx := Pv (i + 1), ct := Pv (i + 1), bk := D.nx } σ2 H2) (hd : ∀ σ H, Pv xs.length σ H → D.nx σ H) :
    ∃ W : Nat → Nat → L2.St → Hp → Prop, (∃ m, W 0 m σ H) ∧ ∀ i m σ H, W i m σ H →
      ((Ieu K a).stop i H ∧ D.nx σ H) ∨ ((Ieu K a).go i H ∧ ∃ N : L2.St → Hp → Prop, (∀ σ' H', N σ' H' → ∃ m', m' < m ∧ W (i + 1) m' σ' H') ∧ ∀ x H', (Ieu K a).yld i H x H' → g x σ H' fun σ2 H2 => tb { D with nx := N, ct := N, bk := D.nx } σ2 H2) := by
  refine ⟨fun i m σ H => m = xs.length - i ∧ i ≤ xs.length ∧ Pv i σ H, ⟨xs.length, by simp, Nat.zero_le _, h0⟩, ?_⟩
  rintro i m σ H ⟨rfl, hi, p⟩
  have q := hl i σ H hi p
  by_cases hlt : i < xs.length
  · refine .inr ⟨⟨xs, xs[i], q, by simp [hlt]⟩, Pv (i + 1), fun σ' H' p' => ⟨xs.length - (i + 1), by omega, rfl, hlt, p'⟩, fun x H' y => ?_⟩
    obtain ⟨T, x, rfl, nT, rfl, y⟩ := y
    exact hs i x T σ _ (y xs q) p nT
  · have e : i = xs.length := by omega
    subst e
    exact .inl ⟨⟨xs, q, Nat.le_refl _⟩, hd σ H p⟩
/-- for i, x in enumerate(row) -/
theorem for_enR {K : PySem.W.Frag} {a : Addr} {xs : List V} {g : TG} {tb : TS} {D : Ends} {σ : L2.St} {H0 H : Hp} (hr : SqL K H0 a xs ∨ SqT K H0 a xs) (Pv : Nat → L2.St → Hp → Prop) (h0 : Pv 0 σ H)
    (keep : ∀ i σ' H', Pv i σ' H' → ∀ o, H0 a = some o → H' a = some o)
    (hs : ∀ (i : Nat) x (T : Addr) σ H, xs[i]? = some x → Pv i σ H → H T = none → g (.ref T) σ (upd H T (.tup [.int (i : Nat), x])) fun σ2 H2 => tb { D with nx := Pv (i + 1), ct := Pv (i + 1), bk := D.nx } σ2 H2) (hd : ∀ σ H, Pv xs.length σ H → D.nx σ H) :
    ((∃ ys, SqL K H a ys) ∧ (∃ W : Nat → Nat → L2.St → Hp → Prop, (∃ m, W 0 m σ H) ∧ ∀ i m σ H, W i m σ H → ((Ite K a).stop i H ∧ D.nx σ H) ∨ ((Ite K a).go i H ∧ ∃ N : L2.St → Hp → Prop, (∀ σ' H', N σ' H' → ∃ m', m' < m ∧ W (i + 1) m' σ' H') ∧ ∀ x H', (Ite K a).yld i H x H' → g x σ H' fun σ2 H2 => tb { D with nx := N, ct := N, bk := D.nx } σ2 H2))) ∨
    ((∃ ys, SqT K H a ys) ∧ (∃ W : Nat → Nat → L2.St → Hp → Prop, (∃ m, W 0 m σ H) ∧ ∀ i m σ H, W i m σ H → ((Ieu K a).stop i H ∧ D.nx σ H) ∨ ((Ieu K a).go i H ∧ ∃ N : L2.St → Hp → Prop, (∀ σ' H', N σ' H' → ∃ m', m' < m ∧ W (i + 1) m' σ' H') ∧ ∀ x H', (Ieu K a).yld i H x H' → g x σ H' fun σ2 H2 => tb { D with nx := N, ct := N, bk := D.nx } σ2 H2))) := by
  rcases hr with h | h
  · exact .inl ⟨⟨_, seqL_at (keep 0 _ _ h0) h⟩, for_enL (K := K) (a := a) (xs := xs) Pv h0 (fun i σ' H' _ p => seqL_at (keep i σ' H' p) h) hs hd⟩
  · exact .inr ⟨⟨_, seqT_at (keep 0 _ _ h0) h⟩, for_enT (K := K) (a := a) (xs := xs) Pv h0 (fun i σ' H' _ p => seqT_at (keep i σ' H' p) h) hs hd⟩
/-! ### a op1 b op2 c op3 d -/
def tChain3 (r r' r'' : R2) (ta tb tc td : TE) : TE := fun σ H Q => ta σ H fun x H1 => tb σ H1 fun y H2 => r x y H2 fun z H3 => ∃ k, z = .bl k ∧
  (if k = true then tc σ H3 fun w' H4 => r' y w' H4 fun z' H5 => ∃ k', z' = .bl k' ∧ (if k' = true then td σ H5 fun w'' H6 => r'' w' w'' H6 Q else Q (.bl false) H5) else Q (.bl false) H3)
section
variable {X : Cx} {a b c d : Expr} {ta tb tc td : TE} {pos : Pos}
theorem pt_chain3 {op op' op'' : CmpOp} {r r' r'' : R2} (ho : OpR X (compareOp op) r) (ho' : OpR X (compareOp op') r') (ho'' : OpR X (compareOp op'') r'') (ha : PE X a ta) (hb : PE X b tb) (hc : PE X c tc) (hd : PE X d td)
    (hm : lastMarks [op, op', op''] [b, c, d] = false := by with_unfolding_all rfl) : PT X (.Compare a [op, op', op''] [b, c, d] pos) (tTest (tChain3 r r' r'' ta tb tc td)) := by
  refine ⟨fun pins s σ H Q I h => ?_⟩
  refine isTrue_chain (thn (ha.run pins s σ H _ I h) fun v s1 ⟨x, H1, I1, r1, q1⟩ => test_link (thn (hb.run pins s1 σ H1 _ I1 q1) fun u s2 ⟨y, H2, I2, r2, q2⟩ =>
    thn (ho pins s2 σ H2 x y v u _ I2 r1 r2 q2) fun d s3 ⟨z, H3, I3, r3, k, e, q3⟩ => ?_)) hm
  subst e
  cases r3
  refine wpAny_truthy_bool ?_
  cases k with
  | false =>
    obtain ⟨k', e', q'⟩ := q3
    cases e'
    exact ite_ff ⟨H3, I3, q'⟩
  | true =>
    refine ite_tt (test_link (thn (hc.run pins s3 σ H3 _ I3 q3) fun w' s4 ⟨z', H4, I4, r4, q4⟩ => thn (ho' pins s4 σ H4 y z' u w' _ I4 r2 r4 q4) fun d' s5 ⟨z2, H5, I5, r5, k2, e2, q5⟩ => ?_))
    subst e2
    cases r5
    refine wpAny_truthy_bool ?_
    cases k2 with
    | false =>
      obtain ⟨k', e', q'⟩ := q5
      cases e'
      exact ite_ff ⟨H5, I5, q'⟩
    | true =>
      refine ite_tt (test_last (thn (hd.run pins s5 σ H5 _ I5 q5) fun w3 s6 ⟨z3, H6, I6, r6, q6⟩ => thn (ho'' pins s6 σ H6 z' z3 w' w3 _ I6 r4 r6 q6) fun d3 s7 ⟨z4, H7, I7, r7, k3, e3, q7⟩ => ?_))
      subst e3
      cases r7
      exact wpAny_truthy_bool ⟨H7, I7, q7⟩
end
end G3

set_option Elab.async false
set_option linter.all false
set_option maxRecDepth 100000
set_option maxHeartbeats 2000000
namespace G3
open PySem PySem.Spec PyProof.Rows L2
section
variable {P : Program} {w : World} {K : PySem.W.Frag} {mg : Str → Option Value} {base : Heap}
abbrev n_is_whole : List Str := ["value"]
abbrev p_is_whole : List Str := ["value"]
theorem sc_is_whole : FnScope n_is_whole p_is_whole (defScope s_is_whole) := ⟨rfl, rfl, rfl, by decide +kernel, rfl, by decide +kernel, by decide +kernel⟩
abbrev n_edge_fault : List Str := ["edge", "n", "place"]
abbrev p_edge_fault : List Str := ["edge", "n"]
theorem sc_edge_fault : FnScope n_edge_fault p_edge_fault (defScope s_edge_fault) := ⟨rfl, rfl, rfl, by decide +kernel, rfl, by decide +kernel, by decide +kernel⟩
theorem ok_is_whole {x : Str} (D : DefAt K mg x "is_whole" s_is_whole) (B : Bt mg) : Has P w K mg base CX0 1 x p_is_whole (spIsI K) := by
  refine has_of D sc_is_whole (fun _ _ _ _ _ _ us hl => match us, hl with | [_], _ => rfl) (fun vs H Q E h => ?_) (fun f cdv A outer s H vs Q E hr h => ?_)
  · obtain ⟨x, d, rfl, _⟩ := h
    rfl
  · obtain ⟨x, d, rfl, hd, q⟩ := h
    refine ⟨_, (pss_one (ps_ret (pe_and (pe_callB (isiK (K := K) rfl) rfl B.isinstance (by decide +kernel) (pa_cons (pv 0) (pa_cons (pe_bltn (v := .ty "int") (u := .type "int") rfl B.int (by decide +kernel) rfl) pa_nil))) (pe_one (pe_not (pe_callB (isiK (K := K) rfl) rfl B.isinstance (by decide +kernel) (pa_cons (pv 0) (pa_cons (pe_bltn (v := .ty "bool") (u := .type "bool") rfl B.bool (by decide +kernel) rfl) pa_nil)))))))), ?_⟩
    have ty := Dp.ty hd
    refine ⟨_, rfl, _, _, _, _, _, rfl, .ty _, ty, kt_int d, _, rfl, ?_⟩
    cases hd with
    | non => exact iteF q
    | bl b => exact iteT ⟨_, rfl, _, _, _, _, _, rfl, .ty _, ty, kt_bool _, _, rfl, q⟩
    | int i => exact iteT ⟨_, rfl, _, _, _, _, _, rfl, .ty _, ty, kt_bool _, _, rfl, q⟩
    | str x => exact iteF q
    | lst _ _ => exact iteF q
    | tup _ _ => exact iteF q
def spEdgeFault : Sp := fun vs H Q _ => ∃ (e : Addr) (a b n : Nat), vs = [.ref e, nV n] ∧ H e = some (.tup [nV a, nV b]) ∧ a < b ∧ b < n ∧ ∀ H', Same H H' → Q .non H'
theorem ok_edge_fault (D : DefAt K mg "edge_fault" "edge_fault" s_edge_fault) (B : Bt mg) (h_is_whole_graphs : Has P w K mg base CX0 1 "is_whole_graphs" p_is_whole (spIsI K)) : Has P w K mg base CX0 2 "edge_fault" p_edge_fault spEdgeFault := by
  refine has_of D sc_edge_fault (fun _ _ _ _ _ _ us hl => match us, hl with | [_, _], _ => rfl) (fun vs H Q E h => ?_) (fun f cdv A outer s H vs Q E hr h => ?_)
  · obtain ⟨e, a, b, n, rfl, _⟩ := h
    rfl
  · obtain ⟨e, a, b, n, rfl, he, hab, hbn, q⟩ := h
    refine ⟨_, (pss_cons (ps_if (PW.pt (pw_or (pt_not (pt_val (pe_callB (isiTK (K := K) rfl) rfl B.isinstance (by decide +kernel) (pa_cons (pv 0) (pa_cons (pe_tup (pa_cons (pe_bltn (v := .ty "tuple") (u := .type "tuple") rfl B.tuple (by decide +kernel) rfl) (pa_cons (pe_bltn (v := .ty "list") (u := .type "list") rfl B.list (by decide +kernel) rfl) pa_nil))) pa_nil))))) (pw_or (pt_cmpR op_ne (pe_callB (lenK (K := K) rfl) rfl B.len PySem.boot_len (pa_cons (pv 0) pa_nil)) pe_int (nomark _)) (pw_or1 (pt_not (pt_val (pe_callB (allK (K := K) rfl rfl) rfl B.all (by decide +kernel) (pa_cons (pe_lc (own := [("place", 2)]) (g := gName 2) (tt := tYes) rfl sc_edge_fault.nd (piT (K := K) rfl (pv 0)) (blkOk_by (N := n_edge_fault) (sc := defScope s_edge_fault) (by decide +kernel)) (fun _ _ _ _ _ => (pg_name (i := 2) sc_edge_fault.nd rfl (.inl rfl))) (fun _ _ _ _ _ => pts_nil) (fun _ _ _ _ _ => (pe_h h_is_whole_graphs hr pass0 (pa_cons (pv 2) pa_nil)))) pa_nil)))))))) (pss_one (ps_ret pe_str)) pss_nil)
  (pss_one (ps_ret (pe_ifExp (pt_chain3 op_le op_lt op_lt pe_int (pe_ix (ixT (K := K) rfl) (pv 0) pe_int (fun _ _ => rfl)) (pe_ix (ixT (K := K) rfl) (pv 0) pe_int (fun _ _ => rfl)) (pv 1)) pe_non pe_str)))), ?_⟩
    refine ⟨_, rfl, by show 2 ≤ sizeLine; decide, fun tp ntp => ?_⟩
    have s1 : Same H (upd H tp (.tup [.ty "tuple", .ty "list"])) := same_upd ntp
    generalize hH1 : upd H tp (.tup [.ty "tuple", .ty "list"]) = H1 at s1
    have htp : H1 tp = some (.tup [.ty "tuple", .ty "list"]) := by rw [← hH1]; exact upd_same
    have he1 := s1 _ _ he
    refine ⟨_, tp, _, _, _, true, rfl, htp, .cons (.ty _) (.cons (.ty _) .nil), ty_t (SqT.of he1), kt_tl (.tuple []), _, rfl, iteF ?_⟩
    refine ⟨_, rfl, _, 2, rfl, .inr ⟨_, SqT.of he1, rfl⟩, rfl, _, rfl, ifN (fun e => absurd rfl e) fun _ => ?_⟩
    refine ⟨_, rfl, e, rfl, ⟨_, SqT.of he1⟩, fun L nL => ?_⟩
    refine lc_tup (K := K) (a := e) (xs := [nV a, nV b]) (fun i H2 => Same H1 H2 ∧ H2 L = some (.lst ((List.replicate i true).map V.bl))) ⟨same_upd nL, upd_same⟩ (fun i H2 _ p => SqT.of (p.1 _ _ he1)) ?_ ?_
    · rintro i x H2 hx ⟨sm, hl⟩
      have hi : i < 2 := (List.getElem?_eq_some_iff.mp hx).1
      have hv : ∃ j : Nat, x = nV j := by
        match i, hx, hi with
        | 0, hx, _ => exact ⟨a, (Option.some.inj hx).symm⟩
        | 1, hx, _ => exact ⟨b, (Option.some.inj hx).symm⟩
      obtain ⟨j, rfl⟩ := hv
      refine ⟨rfl, yes_ ?_⟩
      refine ⟨_, rfl, _, _, rfl, .int _, _, hl, size_lt (by rw [len_rep]; omega), same_mut sm nL, ?_⟩
      rw [upd_same, List.replicate_succ', List.map_append]; rfl
    · rintro H2 ⟨sm, hl⟩
      refine ⟨_, _, rfl, SqL.of hl, _, rfl, ?_⟩
      rw [all_rep]
      refine iteF ?_
      have s2 := s1.trans sm
      have he2 := s2 _ _ he
      refine ⟨_, rfl, _, _, 0, nV a, rfl, rfl, SqT.of he2, rfl, _, _, rfl, rfl, _, rfl, ifD (fun _ => ?_) (fun h => absurd (Int.natCast_nonneg a) h)⟩
      refine ⟨_, rfl, _, _, 1, nV b, rfl, rfl, SqT.of he2, rfl, _, _, rfl, rfl, _, rfl, ifD (fun _ => ?_) (fun h => absurd (by omega) h)⟩
      refine ⟨_, rfl, _, _, rfl, rfl, _, rfl, ifD (fun _ => ?_) (fun h => absurd (by omega) h)⟩
      exact q _ s2
end
end G3

set_option Elab.async false
set_option linter.all false
set_option maxRecDepth 100000
set_option maxHeartbeats 2000000
namespace G3
open PySem PySem.Spec PyProof.Rows L2
/-! ## places that are together -/
def adj (ps : List Pr) (v : Nat) : List Nat := ps.flatMap fun e => (if e.1 = v then [e.2] else []) ++ (if e.2 = v then [e.1] else [])
theorem mem_adj {ps : List Pr} {v u : Nat} : u ∈ adj ps v ↔ ∃ e ∈ ps, (e.1 = v ∧ e.2 = u) ∨ (e.2 = v ∧ e.1 = u) := by
  unfold adj
  rw [List.mem_flatMap]
  constructor
  · rintro ⟨e, he, h⟩
    refine ⟨e, he, ?_⟩
    rcases List.mem_append.mp h with h | h
    · by_cases c : e.1 = v
      · rw [if_pos c] at h; exact .inl ⟨c, (List.mem_singleton.mp h).symm⟩
      · rw [if_neg c] at h; cases h
    · by_cases c : e.2 = v
      · rw [if_pos c] at h; exact .inr ⟨c, (List.mem_singleton.mp h).symm⟩
      · rw [if_neg c] at h; cases h
  · rintro ⟨e, he, h⟩
    refine ⟨e, he, List.mem_append.mpr ?_⟩
    rcases h with ⟨h1, h2⟩ | ⟨h1, h2⟩
    · exact .inl (by rw [if_pos h1]; exact List.mem_singleton.mpr h2.symm)
    · exact .inr (by rw [if_pos h1]; exact List.mem_singleton.mpr h2.symm)
theorem adj_app {ps qs : List Pr} {v : Nat} : adj (ps ++ qs) v = adj ps v ++ adj qs v := by
  unfold adj; rw [List.flatMap_append]
theorem adj_one {e : Pr} {v : Nat} : adj [e] v = (if e.1 = v then [e.2] else []) ++ (if e.2 = v then [e.1] else []) := by
  unfold adj; simp
theorem adj_le {ps : List Pr} {v : Nat} : (adj ps v).length ≤ 2 * ps.length := by
  induction ps with
  | nil => exact Nat.le_refl 0
  | cons e r ih =>
    have : adj (e :: r) v = adj [e] v ++ adj r v := adj_app (ps := [e])
    rw [this, List.length_append, adj_one, List.length_append, List.length_cons]
    have h1 : (if e.1 = v then [e.2] else []).length ≤ 1 := by split <;> simp
    have h2 : (if e.2 = v then [e.1] else []).length ≤ 1 := by split <;> simp
    omega
def Reach (ps : List Pr) (s i : Nat) : Prop := ∀ f : Nat → Bool, (∀ e ∈ ps, f e.1 = f e.2) → f i = f s
theorem Reach.refl {ps : List Pr} {s : Nat} : Reach ps s s := fun _ _ => rfl
theorem Reach.step {ps : List Pr} {s v u : Nat} (h : Reach ps s v) (hu : u ∈ adj ps v) : Reach ps s u := fun f hf => by
  rw [← h f hf]
  obtain ⟨e, he, h | h⟩ := mem_adj.mp hu
  · rw [← h.1, ← h.2]; exact (hf e he).symm
  · rw [← h.1, ← h.2]; exact hf e he
theorem closed_reach {ps : List Pr} {n s : Nat} {F : List Bool} (hb : ∀ e ∈ ps, e.1 < n ∧ e.2 < n) (hs : F[s]? = some true) (hc : ∀ v, F[v]? = some true → ∀ u ∈ adj ps v, F[u]? = some true) {i : Nat} (h : Reach ps s i) : F[i]? = some true := by
  have e := h (fun j => F[j]? == some true) fun e he => by
    show (F[e.1]? == some true) = (F[e.2]? == some true)
    by_cases c : F[e.1]? = some true
    · rw [c, hc _ c _ (mem_adj.mpr ⟨e, he, .inl ⟨rfl, rfl⟩⟩)]
    · by_cases c2 : F[e.2]? = some true
      · exact absurd (hc _ c2 _ (mem_adj.mpr ⟨e, he, .inr ⟨rfl, rfl⟩⟩)) c
      · rw [beq_eq_false_iff_ne.mpr c, beq_eq_false_iff_ne.mpr c2]
  have e2 : (F[i]? == some true) = (F[s]? == some true) := e
  rw [hs] at e2
  exact beq_iff_eq.mp (e2.trans rfl)
/-- one more place found -/
theorem count_set_true {F : List Bool} {u : Nat} (h : F[u]? = some false) : (F.set u true).count false + 1 = F.count false := by
  obtain ⟨hl, e⟩ := List.getElem?_eq_some_iff.mp h
  have h1 : 0 < F.count false := List.count_pos_iff.mpr (e ▸ List.getElem_mem hl)
  rw [List.count_set hl, e]
  simp
  omega
/-- what is found while row v is gone through -/
structure Seek (ps : List Pr) (n s : Nat) (F : List Bool) (W : List Nat) (ex : Nat → Nat → Prop) : Prop where
  len : F.length = n
  at0 : F[s]? = some true
  inW : ∀ w ∈ W, F[w]? = some true
  re : ∀ v, F[v]? = some true → Reach ps s v
  closed : ∀ v, F[v]? = some true → v ∉ W → ∀ u ∈ adj ps v, F[u]? = some true ∨ ex v u
theorem Seek.new {ps : List Pr} {n s u v : Nat} {F : List Bool} {W : List Nat} {ex : Nat → Nat → Prop} (h : Seek ps n s F W ex) (hv : F[v]? = some true) (hu : u ∈ adj ps v) (hF : F[u]? = some false) :
    Seek ps n s (F.set u true) (W ++ [u]) ex := by
  have keep : ∀ x, F[x]? = some true → (F.set u true)[x]? = some true := fun x hx => by
    by_cases c : u = x
    · subst c; rw [hF] at hx; cases hx
    · rw [List.getElem?_set_ne c]; exact hx
  have hl := (List.getElem?_eq_some_iff.mp hF).1
  have back : ∀ x, (F.set u true)[x]? = some true → x = u ∨ F[x]? = some true := fun x hx => by
    by_cases c : u = x
    · exact .inl c.symm
    · rw [List.getElem?_set_ne c] at hx; exact .inr hx
  refine ⟨by rw [List.length_set]; exact h.len, keep _ h.at0, fun w hw => ?_, fun x hx => ?_, fun x hx hxW y hy => ?_⟩
  · rcases List.mem_append.mp hw with hw | hw
    · exact keep _ (h.inW w hw)
    · rw [List.mem_singleton.mp hw, List.getElem?_set_self hl]
  · rcases back x hx with rfl | hx
    · exact (h.re v hv).step hu
    · exact h.re x hx
  · rcases back x hx with rfl | hx
    · exact absurd (List.mem_append.mpr (.inr (List.mem_singleton.mpr rfl))) hxW
    · exact (h.closed x hx (fun z => hxW (List.mem_append.mpr (.inl z))) y hy).imp (keep y) id
theorem Seek.done {ps : List Pr} {n s : Nat} {F : List Bool} {ex : Nat → Nat → Prop} (h : Seek ps n s F [] ex) (hex : ∀ v u, ¬ ex v u) (hb : ∀ e ∈ ps, e.1 < n ∧ e.2 < n) (i : Nat) : F[i]? = some true ↔ Reach ps s i :=
  ⟨h.re i, fun r => closed_reach hb h.at0 (fun v hv u hu => (h.closed v hv (List.not_mem_nil) u hu).elim id fun z => (hex _ _ z).elim) r⟩
theorem Seek.pop {ps : List Pr} {n s v : Nat} {F : List Bool} {W : List Nat} (h : Seek ps n s F (W ++ [v]) fun _ _ => False) : F[v]? = some true ∧ Seek ps n s F W fun x u => x = v ∧ u ∈ (adj ps v).drop 0 := by
  refine ⟨h.inW v (List.mem_append.mpr (.inr (List.mem_singleton.mpr rfl))), h.len, h.at0, fun w hw => h.inW w (List.mem_append.mpr (.inl hw)), h.re, fun x hx hxW u hu => ?_⟩
  by_cases c : x = v
  · exact .inr ⟨c, by rw [List.drop_zero, ← c]; exact hu⟩
  · refine (h.closed x hx (fun z => ?_) u hu).imp id fun f => f.elim
    rcases List.mem_append.mp z with z | z
    · exact hxW z
    · exact c (List.mem_singleton.mp z)
theorem Seek.next {ps : List Pr} {n s v j u : Nat} {F : List Bool} {W : List Nat} (h : Seek ps n s F W fun x u => x = v ∧ u ∈ (adj ps v).drop j) (hj : (adj ps v)[j]? = some u) (hu : F[u]? = some true) :
    Seek ps n s F W fun x u => x = v ∧ u ∈ (adj ps v).drop (j + 1) := by
  refine ⟨h.len, h.at0, h.inW, h.re, fun x hx hxW y hy => ?_⟩
  rcases h.closed x hx hxW y hy with z | ⟨z1, z2⟩
  · exact .inl z
  · obtain ⟨hl, e⟩ := List.getElem?_eq_some_iff.mp hj
    rw [List.drop_eq_getElem_cons hl, e] at z2
    rcases List.mem_cons.mp z2 with rfl | z2
    · exact .inl hu
    · exact .inr ⟨z1, z2⟩
theorem Seek.last {ps : List Pr} {n s v : Nat} {F : List Bool} {W : List Nat} (h : Seek ps n s F W fun x u => x = v ∧ u ∈ (adj ps v).drop (adj ps v).length) : Seek ps n s F W fun _ _ => False :=
  ⟨h.len, h.at0, h.inW, h.re, fun x hx hxW y hy => (h.closed x hx hxW y hy).imp id fun z => by rw [List.drop_length] at z; cases z.2⟩
/-- what of H stands but for what stood at no time before -/
def But (X : Addr → Prop) (H H' : Hp) : Prop := ∀ b o, ¬ X b → H b = some o → H' b = some o
theorem But.trans {X : Addr → Prop} {H H1 H2 : Hp} (a : But X H H1) (b : But X H1 H2) : But X H H2 := fun c o n e => b c o n (a c o n e)
theorem But.refl {X : Addr → Prop} {H : Hp} : But X H H := fun _ _ _ e => e
theorem But.mut {X : Addr → Prop} {H : Hp} {p : Addr} {o : HO} (h : X p) : But X H (upd H p o) := fun b u n e => by
  have c : b ≠ p := fun z => n (z ▸ h)
  rw [upd_ne c]; exact e
theorem Same.but {X : Addr → Prop} {H H' : Hp} (h : Same H H') : But X H H' := fun b o _ e => h b o e
theorem But.same {X : Addr → Prop} {H0 H H' : Hp} (h : But X H H') (s : Same H0 H) (hx : ∀ b, X b → H0 b = none) : Same H0 H' := fun b o e => by
  refine h b o (fun z => ?_) (s b o e)
  rw [hx b z] at e; cases e
/-- a list of things apart, c i the i-th -/
def Rows (H : Hp) (B : Addr) (as : List Addr) (c : Nat → HO) : Prop := H B = some (.lst (as.map V.ref)) ∧ as.Nodup ∧ ∀ i a, as[i]? = some a → a ≠ B ∧ H a = some (c i)
theorem rows_get {as : List Addr} {i : Nat} (h : i < as.length) : (as.map V.ref)[i]? = some (.ref as[i]) := getMap h
theorem Rows.nil {H : Hp} {B : Addr} {c : Nat → HO} : Rows (upd H B (.lst [])) B [] c := ⟨upd_same, List.nodup_nil, fun _ _ h => nomatch h⟩
theorem Rows.but {X : Addr → Prop} {H H' : Hp} {B : Addr} {as : List Addr} {c : Nat → HO} (h : Rows H B as c) (e : But X H H') (hB : ¬ X B) (ha : ∀ a ∈ as, ¬ X a) : Rows H' B as c :=
  ⟨e _ _ hB h.1, h.2.1, fun i a z => ⟨(h.2.2 i a z).1, e _ _ (ha a (List.mem_of_getElem? z)) (h.2.2 i a z).2⟩⟩
theorem Rows.same {H H' : Hp} {B : Addr} {as : List Addr} {c : Nat → HO} (h : Rows H B as c) (e : Same H H') : Rows H' B as c :=
  ⟨e _ _ h.1, h.2.1, fun i a z => ⟨(h.2.2 i a z).1, e _ _ (h.2.2 i a z).2⟩⟩
theorem Rows.push {H : Hp} {B a : Addr} {as : List Addr} {c : Nat → HO} {o : HO} (h : Rows H B as c) (na : H a = none) (ho : o = c as.length) :
    (upd H a o) B = some (.lst (as.map V.ref)) ∧ Rows (upd (upd H a o) B (.lst (as.map V.ref ++ [.ref a]))) B (as ++ [a]) c := by
  obtain ⟨r1, r2, r3⟩ := h
  have nab : B ≠ a := fun z => by rw [← z, r1] at na; cases na
  refine ⟨by rw [upd_ne nab]; exact r1, by rw [upd_same, List.map_append]; rfl, ?_, fun i x hx => ?_⟩
  · refine List.nodup_append.mpr ⟨r2, List.nodup_cons.mpr ⟨List.not_mem_nil, List.nodup_nil⟩, fun x hx y hy e => ?_⟩
    rw [List.mem_singleton.mp hy] at e
    obtain ⟨i, hi, z⟩ := List.getElem_of_mem hx
    have := (r3 i x (by rw [List.getElem?_eq_getElem hi, z])).2
    rw [e, na] at this; cases this
  · by_cases hi : i < as.length
    · rw [List.getElem?_append_left hi] at hx
      obtain ⟨h1, h2⟩ := r3 i x hx
      have nxa : x ≠ a := fun z => by rw [z, na] at h2; cases h2
      exact ⟨h1, by rw [upd_ne h1, upd_ne nxa]; exact h2⟩
    · have hl := (List.getElem?_eq_some_iff.mp hx).1
      rw [List.length_append] at hl
      have : i = as.length := by simp at hl; omega
      subst this
      rw [List.getElem?_append_right (Nat.le_refl _)] at hx
      have : x = a := by simpa using hx.symm
      subst this
      exact ⟨fun z => nab z.symm, by rw [upd_ne (fun z => nab z.symm), upd_same, ho]⟩
theorem Rows.set {H : Hp} {B a : Addr} {as : List Addr} {c : Nat → HO} {o : HO} {k : Nat} (h : Rows H B as c) (hk : as[k]? = some a) : Rows (upd H a o) B as (fun i => if i = k then o else c i) := by
  obtain ⟨r1, r2, r3⟩ := h
  have hb := (r3 k a hk).1
  refine ⟨by rw [upd_ne hb.symm]; exact r1, r2, fun i x hx => ⟨(r3 i x hx).1, ?_⟩⟩
  by_cases c1 : i = k
  · subst c1
    rw [hk] at hx
    obtain rfl := Option.some.inj hx
    show _ = some (if i = i then o else c i)
    rw [if_pos rfl, upd_same]
  · have : x ≠ a := fun z => by
      subst z
      obtain ⟨l1, e1⟩ := List.getElem?_eq_some_iff.mp hk
      obtain ⟨l2, e2⟩ := List.getElem?_eq_some_iff.mp hx
      exact c1 ((List.getElem_inj r2).mp (e2.trans e1.symm))
    show _ = some (if i = k then o else c i)
    rw [if_neg c1, upd_ne this]
    exact (r3 i x hx).2
theorem Rows.to {H : Hp} {B : Addr} {as : List Addr} {c c' : Nat → HO} (h : Rows H B as c) (e : ∀ i, i < as.length → c i = c' i) : Rows H B as c' :=
  ⟨h.1, h.2.1, fun i a z => ⟨(h.2.2 i a z).1, by rw [← e i (List.getElem?_eq_some_iff.mp z).1]; exact (h.2.2 i a z).2⟩⟩
theorem Rows.at {H : Hp} {B : Addr} {as : List Addr} {c : Nat → HO} (h : Rows H B as c) {i : Nat} (hi : i < as.length) : as[i] ≠ B ∧ H as[i] = some (c i) := h.2.2 i _ (List.getElem?_eq_getElem hi)
section
variable {P : Program} {w : World} {K : PySem.W.Frag} {mg : Str → Option Value} {base : Heap}
abbrev n_together : List Str := ["n", "pairs", "start", "found", "beside", "one", "other", "waiting", "place"]
abbrev p_together : List Str := ["n", "pairs", "start"]
theorem sc_together : FnScope n_together p_together (defScope s_together) := ⟨rfl, rfl, rfl, by decide +kernel, rfl, by decide +kernel, by decide +kernel⟩
def spTogether (K : PySem.W.Frag) : Sp := fun vs H Q _ => ∃ (n s : Nat) (p : Addr) (ws : List V) (ps : List Pr), vs = [nV n, .ref p, nV s] ∧ (SqL K H p ws ∨ SqT K H p ws) ∧ Prs H ws ps ∧ (∀ e ∈ ps, e.1 < n ∧ e.2 < n) ∧ s < n ∧ n ≤ 10000 ∧ ps.length ≤ 10000 ∧
  ∀ (H' : Hp) (L : Addr) (F : List Bool), Same H H' → H L = none → H' L = some (.lst (F.map V.bl)) → F.length = n → (∀ i, F[i]? = some true ↔ Reach ps s i) → Q (.ref L) H'
theorem ok_together (D : DefAt K mg "together" "together" s_together) (B : Bt mg) : Has P w K mg base CX0 1 "together" p_together (spTogether K) := by
  refine has_of D sc_together (fun _ _ _ _ _ _ us hl => match us, hl with | [_, _, _], _ => rfl) (fun vs H Q E h => ?_) (fun f cdv A outer s H vs Q E hr h => ?_)
  · obtain ⟨n, s, p, ws, ps, rfl, _⟩ := h
    rfl
  · obtain ⟨n, s, p, ws, ps, rfl, hp, hps, hb, hsn, hn, hl, q⟩ := h
    refine ⟨_, (pss_cons (ps_setLc (i := 3) (own := [("place", 8)]) (g := gName 8) (tt := tYes) rfl sc_together.nd rfl rfl (sw_true rfl rfl rfl (by decide +kernel)) (pi_range1 rfl B.range (pa_cons (pv 0) pa_nil)) (blkOk_by (N := n_together) (sc := defScope s_together) (by decide +kernel)) (fun _ _ _ _ _ => (pg_name (i := 8) sc_together.nd rfl (.inl rfl))) (fun _ _ _ _ _ => pts_nil) (fun _ _ _ _ _ => (pe_cmpR op_eq (pv 8) (pv 2) (nomark _))))
  (pss_cons (ps_setLc (i := 4) (own := [("place", 8)]) (g := gName 8) (tt := tYes) rfl sc_together.nd rfl rfl (sw_true rfl rfl rfl (by decide +kernel)) (pi_range1 rfl B.range (pa_cons (pv 0) pa_nil)) (blkOk_by (N := n_together) (sc := defScope s_together) (by decide +kernel)) (fun _ _ _ _ _ => (pg_name (i := 8) sc_together.nd rfl (.inl rfl))) (fun _ _ _ _ _ => pts_nil) (fun _ _ _ _ _ => (pe_lst pa_nil)))
  (Evl.pss_cut (ps_for PassesOwn.never rfl (pi_row (K := K) rfl (pv 1)) (pgT (K := K) (n := 2) rfl rfl (pgs_cons (pg_name (i := 5) sc_together.nd rfl (.inl rfl)) (pgs_cons (pg_name (i := 6) sc_together.nd rfl (.inl rfl)) pgs_nil))) (pss_cons (ps_expr (pe_bm PySem.F.plainAttrs_list PySem.F.slot_list_append PySem.F.type_list_append mt_append (pe_ix (ixL (K := K) rfl) (pv 4) (pv 5) (fun _ _ => rfl)) (pa_cons (pv 6) pa_nil)))
  (pss_one (ps_expr (pe_bm PySem.F.plainAttrs_list PySem.F.slot_list_append PySem.F.type_list_append mt_append (pe_ix (ixL (K := K) rfl) (pv 4) (pv 6) (fun _ _ => rfl)) (pa_cons (pv 5) pa_nil))))))
  (pss_cons (ps_set (i := 7) sc_together.nd rfl (.inl rfl) (pe_lst (pa_cons (pv 2) pa_nil)))
  (pss_cons (ps_while PassesOwn.never (pt_truth (pv 7) (by intro _; rfl)) (pss_one (ps_for PassesOwn.never rfl (piL (K := K) rfl (pe_ix (ixL (K := K) rfl) (pv 4) (pe_bm0 PySem.F.plainAttrs_list PySem.F.slot_list_pop PySem.F.type_list_pop mt_pop (pv 7)) (fun _ _ => rfl))) (pg_name (i := 6) sc_together.nd rfl (.inl rfl)) (pss_one (ps_if (pt_not (pt_val (pe_ix (ixL (K := K) rfl) (pv 3) (pv 6) (fun _ _ => rfl)))) (pss_cons (ps_asg pe_bl (pg_sub (pv 3) (pv 6) set_list))
  (pss_one (ps_expr (pe_bm PySem.F.plainAttrs_list PySem.F.slot_list_append PySem.F.type_list_append mt_append (pv 7) (pa_cons (pv 6) pa_nil))))) pss_nil)))))
  (pss_one (ps_ret (pv 3)))))))), ?_⟩
    -- found
    refine ⟨_, rfl, _, rfl, by omega, by omega, fun F0 nF => ?_⟩
    refine lc_range (lo := 0) (n := n) (fun i H2 => Same H H2 ∧ H2 F0 = some (.lst (((List.range i).map fun k => decide (k = s)).map V.bl))) ⟨same_upd nF, upd_same⟩ ?_ ?_
    · rintro i H2 hi ⟨sm, hF⟩
      refine ⟨rfl, yes_ ?_⟩
      refine ⟨_, rfl, _, rfl, rfl, _, hF, size_lt (by rw [List.length_map, List.length_map, List.length_range]; omega), same_mut sm nF, ?_⟩
      rw [upd_same, List.range_succ, List.map_append, List.map_append]
      have e : decide (V.int (0 + (i : Int)) = nV s) = decide (i = s) := decide_eq_decide.mpr ⟨fun h => by injection h with h; omega, fun h => by rw [h]; exact congrArg V.int (by omega)⟩
      rw [e]; rfl
    rintro H1 ⟨sm1, hF⟩
    -- beside
    refine ⟨_, rfl, _, rfl, by omega, by omega, fun B0 nB => ?_⟩
    refine lc_range (lo := 0) (n := n) (fun i H2 => Same H1 H2 ∧ ∃ as, as.length = i ∧ Rows H2 B0 as (fun _ => .lst []) ∧ ∀ a ∈ as, H1 a = none) ⟨same_upd nB, [], rfl, Rows.nil, fun a h => nomatch h⟩ ?_ ?_
    · rintro i H2 hi ⟨sm, as, las, ro, fr⟩
      refine ⟨rfl, yes_ ?_⟩
      refine ⟨by show 0 ≤ sizeLine; decide, fun a na => ?_⟩
      obtain ⟨p1, p2⟩ := ro.push (o := .lst []) na rfl
      refine ⟨_, p1, size_lt (by rw [List.length_map]; omega), same_mut (sm.trans (same_upd na)) nB, as ++ [a], by rw [List.length_append, las]; rfl, p2, fun x hx => ?_⟩
      rcases List.mem_append.mp hx with hx | hx
      · exact fr x hx
      · rw [List.mem_singleton.mp hx]; exact sm.free na
    rintro H2 ⟨sm2, as, las, ro, fr⟩
    -- the rows
    have notAs : ∀ x o, H x = some o → ¬ x ∈ as := fun x o e z => by
      have := fr x z
      rw [sm1 _ _ e] at this; cases this
    have s12 : Same H H2 := sm1.trans sm2
    refine ⟨fun σ H' => ∃ (y z : Option V), σ = [some (nV n), some (.ref p), some (nV s), some (.ref F0), some (.ref B0), y, z, none, none] ∧ But (· ∈ as) H2 H' ∧ Rows H' B0 as (fun v => .lst ((adj ps v).map nV)), ?_, ?_⟩
    · refine ⟨_, rfl, p, rfl, ?_⟩
      refine for_row (K := K) (a := p) (xs := ws) (H0 := H) hp (fun i σ H' => ∃ (y z : Option V), σ = [some (nV n), some (.ref p), some (nV s), some (.ref F0), some (.ref B0), y, z, none, none] ∧ But (· ∈ as) H2 H' ∧ Rows H' B0 as (fun v => .lst ((adj (ps.take i) v).map nV))) ?_ ?_ ?_ ?_
      · exact ⟨none, none, rfl, But.refl, ro.to fun i _ => rfl⟩
      · rintro i σ' H' ⟨y, z, rfl, bt, _⟩ o ho
        exact bt _ _ (notAs _ _ ho) (s12 _ _ ho)
      · rintro i x σ' H' hx ⟨y, z, rfl, bt, ro'⟩
        have hi : i < ps.length := by rw [← hps.len]; exact (List.getElem?_eq_some_iff.mp hx).1
        obtain ⟨t, e1, e2⟩ := hps.get hi
        rw [hx] at e1
        obtain rfl := Option.some.inj e1
        obtain ⟨b1, b2⟩ := hb _ (List.getElem_mem hi)
        generalize he : ps[i] = e at e2 b1 b2
        obtain ⟨a, b⟩ := e
        have ht : H' t = some (.tup [nV a, nV b]) := bt _ _ (notAs _ _ e2) (s12 _ _ e2)
        refine ⟨t, _, rfl, SqT.of ht, rfl, _, _, rfl, _, _, rfl, rfl, ?_⟩
        have la : a < as.length := by omega
        have lb : b < as.length := by omega
        have hal := adj_le (ps := ps.take i) (v := a)
        have hbl := adj_le (ps := ps.take i) (v := b)
        have htl : (ps.take i).length ≤ 10000 := by rw [List.length_take]; omega
        refine ⟨_, rfl, _, rfl, _, _, a, .ref as[a], rfl, rfl, SqL.of ro'.1, atI_nat (rows_get la), .inl ⟨rfl, _, SqL.of (ro'.at la).2⟩, _, rfl, _, _, _, rfl, rfl, (ro'.at la).2, size_lt (by rw [List.length_map]; omega), ?_⟩
        have r1 := ro'.set (o := .lst ((adj (ps.take i) a).map nV ++ [nV b])) (List.getElem?_eq_getElem la)
        have m1 : But (· ∈ as) H' (upd H' as[a] (.lst ((adj (ps.take i) a).map nV ++ [nV b]))) := But.mut (X := (· ∈ as)) (List.getElem_mem la)
        generalize upd H' as[a] (.lst ((adj (ps.take i) a).map nV ++ [nV b])) = H3 at r1 m1
        obtain ⟨l2, k2⟩ : ∃ l2, l2.length ≤ 20001 ∧ (if b = a then HO.lst ((adj (ps.take i) a).map nV ++ [nV b]) else .lst ((adj (ps.take i) b).map nV)) = .lst (l2.map nV) ∧ l2 ++ [a] = adj (ps.take (i + 1)) b := by
          rw [List.take_add_one, List.getElem?_eq_getElem hi, he]
          by_cases c : b = a
          · subst c
            refine ⟨adj (ps.take i) b ++ [b], ?_, ?_, ?_⟩
            · rw [List.length_append]; simp; omega
            · rw [if_pos rfl, List.map_append]; rfl
            · show _ = adj (ps.take i ++ [(b, b)]) b
              rw [adj_app, adj_one]; simp
          · refine ⟨adj (ps.take i) b, by omega, if_neg c, ?_⟩
            show _ = adj (ps.take i ++ [(a, b)]) b
            rw [adj_app, adj_one, if_neg (show ¬ (a, b).1 = b from fun z => c z.symm), if_pos rfl]
            rfl
        have hb3 := (r1.at lb).2
        rw [k2.2.1] at hb3
        refine ⟨_, rfl, _, rfl, _, _, b, .ref as[b], rfl, rfl, SqL.of r1.1, atI_nat (rows_get lb), .inl ⟨rfl, _, SqL.of hb3⟩, _, rfl, _, _, _, rfl, rfl, hb3, size_lt (by rw [List.length_map]; omega), ?_⟩
        refine ⟨_, _, rfl, (bt.trans m1).trans (But.mut (X := (· ∈ as)) (List.getElem_mem lb)), ?_⟩
        refine (r1.set (List.getElem?_eq_getElem lb)).to fun v hv => ?_
        show (if v = b then HO.lst (l2.map nV ++ [nV a]) else if v = a then HO.lst ((adj (ps.take i) a).map nV ++ [nV b]) else .lst ((adj (ps.take i) v).map nV)) = _
        by_cases c : v = b
        · subst c
          rw [if_pos rfl, ← k2.2.2, List.map_append]; rfl
        · rw [if_neg c, List.take_add_one, List.getElem?_eq_getElem hi, he]
          show _ = HO.lst ((adj (ps.take i ++ [(a, b)]) v).map nV)
          rw [adj_app, adj_one, if_neg (show ¬ (a, b).2 = v from fun z => c z.symm), List.append_nil, List.map_append]
          by_cases c2 : v = a
          · subst c2
            rw [if_pos rfl, if_pos rfl]; rfl
          · rw [if_neg c2, if_neg (show ¬ (a, b).1 = v from fun z => c2 z.symm)]
            simp
      · rintro σ' H' ⟨y, z, rfl, bt, rw'⟩
        rw [hps.len, List.take_length] at rw'
        exact ⟨_, _, rfl, bt, rw'⟩
    · rintro σ' H' ⟨y, z, rfl, bt, ro'⟩
      have frs : Same H H' := bt.same s12 fun x hx => sm1.free (fr x hx)
      have hF' : H' F0 = some (.lst (((List.range n).map fun k => decide (k = s)).map V.bl)) := bt _ _ (fun z => by have := fr _ z; rw [hF] at this; cases this) (sm2 _ _ hF)
      refine ⟨_, rfl, by show 1 ≤ sizeLine; decide, fun W0 nW => ?_⟩
      have nWF : W0 ≠ F0 := fun z => by rw [z, hF'] at nW; cases nW
      have ro3 := ro'.same (same_upd (o := .lst [nV s]) nW)
      have hF3 : (upd H' W0 (.lst [nV s])) F0 = some (.lst (((List.range n).map fun k => decide (k = s)).map V.bl)) := by rw [upd_ne nWF.symm]; exact hF'
      have hW3 : (upd H' W0 (.lst [nV s])) W0 = some (.lst [nV s]) := upd_same
      have s3 : Same H (upd H' W0 (.lst [nV s])) := frs.trans (same_upd nW)
      have nB0 : ¬ (B0 = F0 ∨ B0 = W0) := fun z => z.elim (fun z => by rw [z, hF] at nB; cases nB) fun z => by rw [← z, ro'.1] at nW; cases nW
      have nas : ∀ a ∈ as, ¬ (a = F0 ∨ a = W0) := fun a ha z => by
        rcases z with z | z
        · have := fr a ha
          rw [z, hF] at this; cases this
        · obtain ⟨k, hk, e⟩ := List.getElem_of_mem ha
          have := (ro'.at hk).2
          rw [e, z, nW] at this; cases this
      generalize upd H' W0 (.lst [nV s]) = H3 at ro3 hF3 hW3 s3 ⊢
      have nx : ∀ x, x = F0 ∨ x = W0 → H x = none := fun x hx => by
        rcases hx with rfl | rfl
        · exact nF
        · exact frs.free nW
      have cF : ∀ v, ((List.range n).map fun k => decide (k = s))[v]? = some true → v = s := fun v hv => by
        rw [List.getElem?_map] at hv
        by_cases c : v < n
        · rw [List.getElem?_range c] at hv
          exact of_decide_eq_true (Option.some.inj hv)
        · rw [List.getElem?_eq_none (by rw [List.length_range]; omega)] at hv
          cases hv
      have c0 : ((List.range n).map fun k => decide (k = s))[s]? = some true := by
        rw [List.getElem?_map, List.getElem?_range hsn]
        show some (decide (s = s)) = _
        rw [decide_eq_true rfl]
      have sk0 : Seek ps n s ((List.range n).map fun k => decide (k = s)) [s] (fun _ _ => False) :=
        ⟨by rw [List.length_map, List.length_range], c0, fun w hw => by rw [List.mem_singleton.mp hw]; exact c0, fun v hv => by rw [cF v hv]; exact Reach.refl, fun v hv nv => absurd (List.mem_singleton.mpr (cF v hv)) nv⟩
      have cl : ∀ F : List Bool, F.length = n → F.count false ≤ n := fun F e => e ▸ List.count_le_length
      refine ⟨fun m σ' H4 => ∃ (y z : Option V) (F : List Bool) (Wl : List Nat), σ' = [some (nV n), some (.ref p), some (nV s), some (.ref F0), some (.ref B0), y, z, some (.ref W0), none] ∧ But (fun x => x = F0 ∨ x = W0) H3 H4 ∧ H4 F0 = some (.lst (F.map V.bl)) ∧ H4 W0 = some (.lst (Wl.map nV)) ∧ Seek ps n s F Wl (fun _ _ => False) ∧ m = 2 * F.count false + Wl.length ∧ m ≤ 2 * n + 1, ⟨_, _, _, _, [s], rfl, But.refl, hF3, hW3, sk0, rfl, ?_⟩, ?_⟩
      · have := cl _ sk0.len
        show 2 * _ + 1 ≤ _
        omega
      rintro m σ' H4 ⟨y, z, F, Wl, rfl, b4, hF4, hW4, sk, em, hm⟩
      rcases List.eq_nil_or_concat Wl with rfl | ⟨W', v, rfl⟩
      · refine ⟨_, rfl, _, .inl ⟨_, SqL.of hW4, rfl⟩, ?_⟩
        exact iteF ⟨_, rfl, q _ _ _ (b4.same s3 nx) nF hF4 sk.len (sk.done (fun _ _ => id) hb)⟩
      · rw [List.concat_eq_append] at *
        obtain ⟨hv, sk1⟩ := sk.pop
        have hvn : v < n := by rw [← sk.len]; exact (List.getElem?_eq_some_iff.mp hv).1
        have hva : v < as.length := by omega
        have cF4 := cl F sk.len
        rw [List.length_append] at em
        have em : m = 2 * F.count false + (W'.length + 1) := em
        refine ⟨_, rfl, _, .inl ⟨_, SqL.of hW4, rfl⟩, ?_⟩
        rw [List.map_append]
        have ne : (!((W'.map nV) ++ [v].map nV).isEmpty) = true := by simp
        rw [ne]
        refine iteT ?_
        refine ⟨fun σ' H5 => ∃ m', m' < m ∧ ∃ (y z : Option V) (F : List Bool) (Wl : List Nat), σ' = [some (nV n), some (.ref p), some (nV s), some (.ref F0), some (.ref B0), y, z, some (.ref W0), none] ∧ But (fun x => x = F0 ∨ x = W0) H3 H5 ∧ H5 F0 = some (.lst (F.map V.bl)) ∧ H5 W0 = some (.lst (Wl.map nV)) ∧ Seek ps n s F Wl (fun _ _ => False) ∧ m' = 2 * F.count false + Wl.length ∧ m' ≤ 2 * n + 1, fun _ _ h => h, ?_⟩
        have roA := fun (H5 : Hp) (b5 : But (fun x => x = F0 ∨ x = W0) H3 H5) => ro3.but b5 nB0 nas
        refine ⟨_, rfl, _, rfl, .inl ⟨rfl, _, SqL.of hW4⟩, W0, _, nV v, rfl, rfl, hW4, ?_, ?_⟩
        · rw [List.map_append, List.length_append, List.length_map]
          simp
        have eW : ((W' ++ [v]).map nV).dropLast = W'.map nV := by rw [List.map_append]; simp
        rw [eW]
        have b5 : But (fun x => x = F0 ∨ x = W0) H3 (upd H4 W0 (.lst (W'.map nV))) := b4.trans (But.mut (X := fun x => x = F0 ∨ x = W0) (.inr rfl))
        have hF5 : (upd H4 W0 (.lst (W'.map nV))) F0 = some (.lst (F.map V.bl)) := by rw [upd_ne nWF.symm]; exact hF4
        have hW5 : (upd H4 W0 (.lst (W'.map nV))) W0 = some (.lst (W'.map nV)) := upd_same
        generalize upd H4 W0 (.lst (W'.map nV)) = H5 at b5 hF5 hW5 ⊢
        have ro5 := roA _ b5
        refine ⟨_, _, v, .ref as[v], rfl, rfl, SqL.of ro5.1, atI_nat (rows_get hva), as[v], rfl, ⟨_, SqL.of (ro5.at hva).2⟩, ?_⟩
        refine for_list (K := K) (a := as[v]) (xs := (adj ps v).map nV) (fun j σ' H6 => ∃ (y z : Option V) (F : List Bool) (Wl : List Nat), σ' = [some (nV n), some (.ref p), some (nV s), some (.ref F0), some (.ref B0), y, z, some (.ref W0), none] ∧ But (fun x => x = F0 ∨ x = W0) H3 H6 ∧ H6 F0 = some (.lst (F.map V.bl)) ∧ H6 W0 = some (.lst (Wl.map nV)) ∧ Seek ps n s F Wl (fun x u => x = v ∧ u ∈ (adj ps v).drop j) ∧ F[v]? = some true ∧ 2 * F.count false + Wl.length < m) ?_ ?_ ?_ ?_
        · exact ⟨_, _, _, _, rfl, b5, hF5, hW5, sk1, hv, by omega⟩
        · rintro j σ' H6 hj ⟨y, z, F, Wl, rfl, b6, _⟩
          exact SqL.of ((roA _ b6).at hva).2
        · rintro j x σ' H6 hx ⟨y, z, F, Wl, rfl, b6, hF6, hW6, sk6, hv6, hm6⟩
          rw [List.getElem?_map] at hx
          obtain ⟨u, hu, rfl⟩ := Option.map_eq_some_iff.mp hx
          have hua := List.mem_of_getElem? hu
          have hun : u < n := by
            obtain ⟨e, he, h | h⟩ := mem_adj.mp hua
            · rw [← h.2]; exact (hb e he).2
            · rw [← h.2]; exact (hb e he).1
          have hul : u < F.length := by rw [sk6.len]; exact hun
          have hFu : (F.map V.bl)[u]? = some (.bl F[u]) := getMap hul
          have hFu2 : F[u]? = some F[u] := List.getElem?_eq_getElem hul
          skip
          refine ⟨_, rfl, _, rfl, _, _, u, .bl F[u], rfl, rfl, SqL.of hF6, atI_nat hFu, _, rfl, ?_⟩
          cases hf : F[u] with
          | true =>
            rw [hf] at hFu2
            exact iteF ⟨_, _, F, Wl, rfl, b6, hF6, hW6, sk6.next hu hFu2, hv6, hm6⟩
          | false =>
            rw [hf] at hFu2
            have ct := count_set_true hFu2
            have sk7 := sk6.new hv6 hua hFu2
            refine iteT ⟨_, rfl, _, rfl, F0, _, u, u, rfl, rfl, hF6, Evl.ixN_nat (by rw [List.length_map]; exact hul), ?_⟩
            have hW7 : (upd H6 F0 (.lst ((F.map V.bl).set u (.bl true)))) W0 = some (.lst (Wl.map nV)) := by rw [upd_ne nWF]; exact hW6
            refine ⟨_, rfl, .inl ⟨rfl, _, SqL.of hW7⟩, _, rfl, W0, _, nV u, rfl, rfl, hW7, size_lt (by rw [List.length_map]; omega), ?_⟩
            refine ⟨_, _, F.set u true, Wl ++ [u], rfl, (b6.trans (But.mut (X := fun x => x = F0 ∨ x = W0) (.inl rfl))).trans (But.mut (X := fun x => x = F0 ∨ x = W0) (.inr rfl)), ?_, ?_, sk7.next hu (List.getElem?_set_self hul), ?_, ?_⟩
            · rw [upd_ne nWF.symm, upd_same, List.map_set]
            · rw [upd_same, List.map_append]; rfl
            · by_cases c : u = v
              · rw [c]; exact List.getElem?_set_self (c ▸ hul)
              · rw [List.getElem?_set_ne c]; exact hv6
            · rw [List.length_append]
              show 2 * _ + (_ + 1) < m
              omega
        · rintro σ' H6 ⟨y, z, F, Wl, rfl, b6, hF6, hW6, sk6, hv6, hm6⟩
          rw [List.length_map] at sk6
          exact ⟨_, hm6, _, _, _, _, rfl, b6, hF6, hW6, sk6.last, rfl, by omega⟩
end
end G3

set_option Elab.async false
set_option linter.all false
set_option maxRecDepth 100000
set_option maxHeartbeats 4000000
/-! sorted(d.items()) of a dict of ints with int keys; classes. -/
namespace L2.DX
open PySem PySem.Spec PyProof.Rows
abbrev entI (e : Int × Int) : L2.Key × V := (Sum.inl e.1, V.int e.2)
section
variable {X : Cx}
def rItemsK : V → List V → Hp → VK → Prop := fun x xs H Q => ∃ (a : Addr) (kvs : List (L2.Key × V)), x = .ref a ∧ xs = [] ∧ H a = some (.dK kvs) ∧ ∀ p, H p = none → Q (.ref p) (upd H p (itemsO p a))
theorem mt_itemsK : MtR X "dict.items" rItemsK := by
  intro pins s σ H x xs v us Q I rx rxs h
  obtain ⟨a, kvs, rfl, rfl, ha, q⟩ := h
  cases rx
  cases rxs
  obtain ⟨z, hd, vs, kv, o, es, ep, ho, hx, hdat, _⟩ := dk_of I.hok ha
  refine DT.callItems (es := es) (ep := ep) hd ⟨o, ho, hx, hdat⟩ ?_
  have hf : H s.heap.objs.size = none := I.hok.fresh (Nat.le_refl _)
  exact ⟨.ref s.heap.objs.size, upd H s.heap.objs.size (itemsO s.heap.objs.size a), I.laid (t' := s.toks) (fun b u e => Heap.get?_push_of_some _ e) (Nat.le_refl _) (itemsO_ok (Heap.get?_push_size _ rfl)), rfl, q _ hf⟩
/-- keys and values are ints -/
def rSortItI : List V → Hp → VK → Prop := fun vs H Q => ∃ (p a : Addr) (ks : List (Int × Int)), vs = [.ref p] ∧ H p = some (itemsO p a) ∧ H a = some (.dK (ks.map entI)) ∧
  ∀ (H' : Hp) (l : Addr) (zs : List (Addr × Int × Int)), (∀ b o, H b = some o → H' b = some o) → H l = none → (zs.map (·.2)).Perm ks → (zs.map (·.2)).Pairwise (fun e f => e.1 ≤ f.1) → H' l = some (.lst (zs.map fun z => V.ref z.1)) →
    (∀ z ∈ zs, H z.1 = none ∧ H' z.1 = some (.tup [.int z.2.1, .int z.2.2])) → Q (.ref l) H'
theorem pairs_ents {P : Program} {w : World} : ∀ {es : List DictEntry} {ks : List (Int × Int)} {vs : List (L2.Key × Value)}, Pairs (mixKind P w) es vs → KV (ks.map entI) vs → ∀ (j : Nat) (e : DictEntry), es[j]? = some e →
    ∃ (x : Int × Int) (t u : Tok), ks[j]? = some x ∧ e.key = .int x.1 t ∧ e.val = .int x.2 u
  | [], _, _, _, _, j, e, h => nomatch h
  | e0 :: es, [], _, hp, hk, j, e, h => by cases hk; cases hp
  | e0 :: es, k :: ks, _, hp, hk, j, e, h => by
    cases hp with
    | cons h1 h2 hp =>
      cases hk with
      | cons r hk =>
        cases j with
        | zero =>
          obtain rfl := Option.some.inj h
          obtain ⟨r1, r2⟩ := r
          have r1 : Sum.inl k.1 = _ := r1
          rw [← r1] at h1
          obtain ⟨t, ht⟩ : ∃ t, e0.key = .int k.1 t := Value.isInt_shape h1
          obtain ⟨u, hu⟩ := r2
          exact ⟨k, t, u, rfl, ht, h2.trans hu⟩
        | succ j => exact pairs_ents hp hk j e h
def pairK (h : Heap) : Value → Int × Int
  | .ref b => match h.get? b with
    | some o => match o.data with
      | .seq its _ => match its.toList with
        | [.int x _, .int y _] => (x, y)
        | _ => (0, 0)
      | _ => (0, 0)
    | none => (0, 0)
  | _ => (0, 0)
theorem cr_sortedItemsI (hc : X.calm = true) : CallR X (.builtin "sorted") rSortItI := by
  intro pins s σ H xs us Q I r h
  obtain ⟨p, a, ks, rfl, hp, ha, q⟩ := h
  obtain rfl := Vals.ref1 r
  have view : s.heap.IsItemsView p a := (show ObjOk X.prog X.w H s.heap p (itemsO p a) from I.hok p _ hp).1
  obtain ⟨z, hd, vs, kv, o, es, ep, ho, hx, hdat, hks, hprs, hnd⟩ := dk_of I.hok ha
  have l1 : (ks.map entI).length = vs.length := Paired.length kv
  rw [List.length_map] at l1 z
  have l2 : es.toList.length = vs.length := hprs.length
  have l2 : es.size = vs.length := by rw [← l2]; simp
  have hh : X.A.handled = none := I.ok.hd hc
  refine DT.sortedI (es := es) (ep := ep) hh view ⟨o, ho, hx, hdat⟩ (by omega) fun h' tk as hk hlt hl hG => ?_
  have lak : as.length = ks.length := by omega
  have nd : as.Nodup := List.Pairwise.imp (fun h => Nat.ne_of_lt h) hG.rise
  have pr : ∀ (j : Nat) (b : Addr), as[j]? = some b → ∃ (e : Int × Int) (t u : Tok), ks[j]? = some e ∧ h'.get? b = some { cls := .type "tuple", data := .seq #[.int e.1 t, .int e.2 u] } := by
    intro j b hj
    obtain ⟨en, he, hg⟩ := hG.pairs j b hj
    obtain ⟨x, t, u, h1, h2, h3⟩ := pairs_ents hprs kv j en (by rw [Array.getElem?_toList]; exact he)
    rw [h2, h3] at hg
    exact ⟨x, t, u, h1, hg⟩
  have hob : (h'.push { cls := .type "list", data := .seq (as.map Value.ref).toArray }).get? h'.objs.size = some (seqObj "list" (as.map Value.ref).toArray 0) := Heap.get?_push_size _ rfl
  have kb : ∀ b o, s.heap.get? b = some o → (h'.push { cls := .type "list", data := .seq (as.map Value.ref).toArray }).get? b = some o := fun b o e => Heap.get?_push_of_some _ (hk b o e)
  have ne0 : ∀ b o, h'.get? b = some o → b ≠ h'.objs.size := fun b o e => Nat.ne_of_lt (Heap.lt_size e)
  generalize hh2 : h'.push { cls := .type "list", data := .seq (as.map Value.ref).toArray } = h2 at hob kb ⊢
  have ka : ∀ b o, h'.get? b = some o → h2.get? b = some o := fun b o e => by rw [← hh2]; exact Heap.get?_push_of_some _ e
  have at_ : ∀ v ∈ as.map Value.ref, ∃ (j : Nat) (b : Addr) (e : Int × Int), v = .ref b ∧ as[j]? = some b ∧ ks[j]? = some e ∧ pairK h2 v = e ∧ Srt.IsPair h2 v e.1 e.2 := by
    intro v hv'
    obtain ⟨b, hb, rfl⟩ := List.mem_map.mp hv'
    obtain ⟨j, hj⟩ := List.mem_iff_getElem?.mp hb
    obtain ⟨e, t, u, he, hg⟩ := pr j b hj
    have hg2 := ka _ _ hg
    exact ⟨j, b, e, rfl, hj, he, by simp only [pairK, hg2], b, _, t, u, _, rfl, hg2, rfl, rfl⟩
  have hsz : (as.map Value.ref).length ≤ sizeLine := by rw [List.length_map]; omega
  refine wpAny_call_entry PyProof.Rows.slot_list_sort ⟨_, hob, rfl⟩ PyProof.Rows.entry_list_sort
    (SrtO.list_sort_ord (s := { s with heap := h2, toks := tk }) (SrtO.swo_lex (pairK h2)) hob hsz (fun h2' => ?_) fun out o1 o2 => ⟨.none, rfl, ?_⟩) (PyProof.Rows.args_list_sort _)
  · refine SrtO.pairs_sortableO (s := { s with heap := h2, toks := tk }) (by omega) (fun v hv' => ?_) fun o e => ?_
    · obtain ⟨j, b, e, rfl, _, _, ek, hp'⟩ := at_ v hv'
      rw [ek]; exact hp'
    · have e' : some o = some (seqObj "list" (as.map Value.ref).toArray 0) := e.symm.trans hob
      cases e'
      intro c
      exact absurd (Value.type.inj c) (by decide)
  · show EP X pins σ Q (.ref h'.objs.size) { s with heap := sortedHeap h2 h'.objs.size (as.map Value.ref) out.toArray, toks := tk }
    obtain ⟨zs, pz, ez⟩ := perm_lift (fun z : Addr × Int × Int => Value.ref z.1) o2.perm (as.zip ks) (by
      have : (as.zip ks).map (fun z : Addr × Int × Int => Value.ref z.1) = ((as.zip ks).map Prod.fst).map Value.ref := by rw [List.map_map]; rfl
      rw [this, List.map_fst_zip (by omega)])
    have idx : ∀ z ∈ zs, ∃ j : Nat, as[j]? = some z.1 ∧ ks[j]? = some z.2 := by
      intro z' hz'
      obtain ⟨j, hj⟩ := List.mem_iff_getElem?.mp (pz.mem_iff.mp hz')
      exact ⟨j, List.getElem?_zip_eq_some.mp hj⟩
    have hperm : (zs.map (·.2)).Perm ks := by
      have e := pz.map (·.2)
      have m2 : (as.zip ks).map (·.2) = ks := List.map_snd_zip (by rw [lak]; exact Nat.le_refl _)
      rw [m2] at e
      exact e
    have hkz : ∀ z ∈ zs, pairK h2 (.ref z.1) = z.2 := by
      intro z' hz'
      obtain ⟨j, j1, j2⟩ := idx z' hz'
      obtain ⟨i, b, e, eb, i1, i2, ek, _⟩ := at_ (.ref z'.1) (List.mem_map.mpr ⟨_, List.mem_of_getElem? j1, rfl⟩)
      injection eb with eb
      rw [← eb] at i1
      have eij : i = j := (List.getElem?_inj (List.getElem?_eq_some_iff.mp i1).1 nd).mp (i1.trans j1.symm)
      subst eij
      exact ek.trans (Option.some.inj (i2.symm.trans j2))
    have hsort : (zs.map (·.2)).Pairwise (fun e f => e.1 ≤ f.1) := by
      have o1' : out.Pairwise _ := o1
      rw [← ez, List.pairwise_map] at o1'
      rw [List.pairwise_map]
      refine List.Pairwise.imp_of_mem (fun {x y} hx hy h => ?_) o1'
      have h := SrtO.lexB_no.mp h
      rw [hkz x hx, hkz y hy] at h
      show x.2.1 ≤ y.2.1
      omega
    have kF : ∀ b o, b ≠ h'.objs.size → h2.get? b = some o → (sortedHeap h2 h'.objs.size (as.map Value.ref) out.toArray).get? b = some o := fun b o hb e => (PyProof.Rows.sortedHeap_old hb (Heap.lt_size e)).trans e
    have kS : ∀ b o, s.heap.get? b = some o → (sortedHeap h2 h'.objs.size (as.map Value.ref) out.toArray).get? b = some o := fun b o e => kF b o (ne0 _ _ (hk b o e)) (kb b o e)
    obtain ⟨eF, heF⟩ := PyProof.Rows.sortedHeap_at (vs := as.map Value.ref) (out := out.toArray) hob
    have I1 : Inv X pins σ H { s with heap := sortedHeap h2 h'.objs.size (as.map Value.ref) out.toArray, toks := tk } := I.kept (t' := tk) kS
    have hn0 : H h'.objs.size = none := I.hok.fresh (Nat.le_of_lt hlt)
    have hlen : (zs.map fun z => V.ref z.1).length ≤ sizeLine := by
      have e := hperm.length_eq
      rw [List.length_map] at e
      rw [List.length_map]
      omega
    have rv : Vals (zs.map fun z => V.ref z.1) out.toArray.toList := by
      rw [List.toList_toArray, ← ez]
      exact vals_maps (fun z : Addr × Int × Int => V.ref z.1) (fun z => Value.ref z.1) zs fun _ _ => rfl
    have I2 : Inv X pins σ (upd H h'.objs.size (.lst (zs.map fun z => V.ref z.1))) { s with heap := sortedHeap h2 h'.objs.size (as.map Value.ref) out.toArray, toks := tk } :=
      I1.take (h' := sortedHeap h2 h'.objs.size (as.map Value.ref) out.toArray) (t' := tk) (fun b ob _ e => e) (I.fpOk (Nat.le_of_lt hlt) hn0) ⟨hlen, out.toArray.toList, eF, rv, heF⟩
    obtain ⟨H2, I3, g, qt⟩ := takeT (P := fun b vs => ∃ (j : Nat) (e : Int × Int), as[j]? = some b ∧ ks[j]? = some e ∧ vs = [.int e.1, .int e.2] ∧ H b = none) I as _ I2 nd fun b hb => by
      obtain ⟨j, hj⟩ := List.mem_iff_getElem?.mp hb
      obtain ⟨e, t, u, he, hg⟩ := pr j b hj
      have hbl : s.heap.objs.size ≤ b := Nat.le_of_lt (hG.above b hb)
      refine ⟨hbl, ?_, [.int e.1, .int e.2], ⟨j, e, hj, he, rfl, I.hok.fresh hbl⟩, fun H3 => ⟨(by rw [sizeLine_eq]; show 2 ≤ 16777216; omega), [Value.int e.1 t, Value.int e.2 u], .cons ⟨_, rfl⟩ (.cons ⟨_, rfl⟩ .nil), ⟨_, kF _ _ (ne0 _ _ hg) (ka _ _ hg), rfl, 0, rfl⟩⟩⟩
      rw [upd_ne (ne0 _ _ hg)]
      exact I.hok.fresh hbl
    have gr : ∀ b o, H b = some o → H2 b = some o := fun b o e => g b o (by rw [upd_ne (ne_of_none e hn0)]; exact e)
    refine ⟨.ref h'.objs.size, H2, I3, rfl, q H2 h'.objs.size zs gr hn0 hperm hsort (g _ _ upd_same) fun z' hz' => ?_⟩
    obtain ⟨i, i1, i2⟩ := idx z' hz'
    obtain ⟨vs, ⟨j, e, j1, j2, ev, hn⟩, hH⟩ := qt z'.1 (List.mem_of_getElem? i1)
    have eij : i = j := (List.getElem?_inj (List.getElem?_eq_some_iff.mp i1).1 nd).mp (i1.trans j1.symm)
    subst eij
    have ee : e = z'.2 := Option.some.inj (j2.symm.trans i2)
    rw [ev, ee] at hH
    exact ⟨hn, hH⟩
end
end L2.DX

namespace G3
open PySem PySem.Spec PyProof.Rows L2
/-! ### classes -/
def MkAt (K : PySem.W.Frag) (mg : Str → Option Value) (x : Str) (C : Addr) (nm qn : Str) (st : Stmt) : Prop := ∃ f fd, Fun K nm qn st f fd ∧ Mk K C f ∧ mg x = some (.ref C)
def HasMk (P : Program) (w : World) (K : PySem.W.Frag) (mg : Str → Option Value) (base : Heap) (CX : CXT) (k : Nat) (x : Str) (C : Addr) (ps : List Str) (sp : Sp) : Prop :=
  ∃ f fd, FnOk P w K mg base CX k f fd ps sp ∧ Mk K C f ∧ mg x = some (.ref C) ∧ Binds K fd ps []
section
variable {P : Program} {w : World} {K : PySem.W.Frag} {mg : Str → Option Value} {base : Heap} {k : Nat} {x : Str} {C : Addr} {ps : List Str} {sp : Sp}
theorem hasMk_of {nm qn : Str} {st : Stmt} {N : List Str} (D : MkAt K mg x C nm qn st) (S : FnScope N ps (defScope st))
    (hb : ∀ (kV doc pm : Value) (an : Option Addr) (cdv ct : Value) (us : List Value), us.length = ps.length → bindArgs (PySem.W.fnOf nm qn (defArgs st) (defBody st) (defScope st) .none kV doc pm an cdv ct) ⟨us, []⟩ = pure (ps.zip us))
    (len : ∀ vs H Q E, sp vs H Q E → vs.length = ps.length)
    (hbody : ∀ (f : Addr) (cdv : Value) (A : Around) (outer : List Env) (s : Shared) (H : Hp) (vs : List V) (Q : VK) (E : XK), Room k (A.deeper (envOfC qn (defScope st) s.heap.objs.size f cdv)) → sp vs H Q E →
      ∃ t, PSs (cxOf CX0 P w K mg base N qn (defScope st) f cdv A outer s H E).nox (defBody st) t ∧ t { nx := fun _ H' => Q .non H', rt := Q } (start N vs) H) : HasMk P w K mg base CX0 (k + 1) x C ps sp := by
  obtain ⟨f, fd, F, M, m⟩ := D
  exact ⟨f, fd, F.ok S len (fun cdv A outer s H vs Q E hr hs => hbody f cdv A outer s H vs Q E hr hs), M, m, F.binds hb⟩
end
theorem pe_makeH {X : Cx} {CX : CXT} {k j : Nat} {x : Str} {C : Addr} {ps : List Str} {sp : Sp} {E : XK} {p pos : Pos} {e : Expr} {es : List Expr} {t : TA} (h : HasMk X.prog X.w X.K X.mg X.base CX k x C ps sp) (hr : Room j X.A) (hx : Passes CX X E)
    (ha : PA X (e :: es) t) (hk : k + 1 ≤ j := by first | decide | omega) (hg : Gl X x := by rfl) (hdb : (x == ("__debug__" : Str)) = false := by decide) (he : starEach (e :: es) X.env = (false, eval e X.env) :: starEach es X.env := by rfl) (hpl : (backTo pos (starEach es X.env)).any (·.1) = false := by rfl) :
    PE X (.Call (.Name x p) (e :: es) [] pos) (tMake C sp [] E t) := by
  obtain ⟨f, fd, F, M, m, b⟩ := h
  exact pe_make M F (hr.mono hk) hg m b .nil hx ha hdb he hpl
theorem sortPK {X : Cx} {K : PySem.W.Frag} (h : X.K = K) : CallR X (.builtin "sorted") (rSortedPO K) := h ▸ cr_sortedPO
theorem bm0N {X : Cx} {K : PySem.W.Frag} (hK : X.K = K) {o : Expr} {to : TE} {name : Str} {apos cpos : Pos} {T id : String} {r : V → List V → Hp → VK → Prop} (pa : PlainAttrs T) (slot : Slot T name id) (hty : typeOf (.builtin id) = pure (.type "method_descriptor")) (hm : MtR X id r) (ho : PE X o to)
    (hbase : attributeBase o name X.env (eval o X.env) = eval o X.env := by rfl) (hline : (apos.endLine == cpos.line) = true := by rfl) : PE X (.Call (.Attribute o name apos) [] [] cpos) (tBM0 K T r to) := by
  subst hK
  exact pe_bm0 pa slot hty hm ho hbase hline
end G3

set_option Elab.async false
set_option linter.all false
set_option maxRecDepth 100000
set_option maxHeartbeats 2000000
namespace G3
open PySem PySem.Spec PyProof.Rows L2
/-! ## Graph -/
structure GraphC (K : PySem.W.Frag) (C : Addr) : Prop where
  cls : Cls K C
  n : NoAttr K C "n"
  edges : NoAttr K C "edges"
  genus : NoAttr K C "genus"
  kept : NoAttr K C "kept"
/-- a graph object: its places, its edges in order, its dict of what is kept -/
def GrAt (H : Hp) (C g : Addr) (n : Nat) (es : List Pr) (kd : Addr) : Prop := ∃ (dx eT : Addr) (vs : List V), H g = some (.ins C dx [("n", nV n), ("edges", .ref eT), ("genus", .int ((es.length : Int) - n + 1)), ("kept", .ref kd)]) ∧ H eT = some (.tup vs) ∧ Prs H vs es
theorem GrAt.but {X : Addr → Prop} {H H' : Hp} {C g kd : Addr} {n : Nat} {es : List Pr} (h : GrAt H C g n es kd) (e : But X H H') (hg : ¬ X g) (ht : ∀ t xs, H t = some (.tup xs) → ¬ X t) : GrAt H' C g n es kd := by
  obtain ⟨dx, eT, vs, h1, h2, h3⟩ := h
  exact ⟨dx, eT, vs, e _ _ hg h1, e _ _ (ht _ _ h2) h2, h3.mono fun t a b z => e _ _ (ht _ _ z) z⟩
theorem GrAt.same {H H' : Hp} {C g kd : Addr} {n : Nat} {es : List Pr} (h : GrAt H C g n es kd) (e : Same H H') : GrAt H' C g n es kd :=
  h.but (X := fun _ => False) (Same.but e) id fun _ _ _ => id
theorem Good.reach {n : Nat} {es : List Pr} (h : Good n es) {i : Nat} (hi : i < n) : Reach es 0 i := fun f hf => h.2 f hf i hi
def Lex (es : List Pr) : Prop := es.Pairwise fun a b => a.1 < b.1 ∨ a.1 = b.1 ∧ a.2 ≤ b.2
/-- the pair at a value -/
def prI (H : Hp) : V → Int × Int
  | .ref t => match H t with
    | some (.tup [.int a, .int b]) => (a, b)
    | _ => (0, 0)
  | _ => (0, 0)
def prN (H : Hp) (v : V) : Pr := ((prI H v).1.toNat, (prI H v).2.toNat)
theorem prI_of {H : Hp} {t : Addr} {a b : Nat} (h : H t = some (.tup [nV a, nV b])) : prI H (.ref t) = ((a : Int), (b : Int)) := by
  have h : H t = some (.tup [.int a, .int b]) := h
  simp only [prI, h]
theorem prN_of {H : Hp} {t : Addr} {a b : Nat} (h : H t = some (.tup [nV a, nV b])) : prN H (.ref t) = (a, b) := by
  unfold prN; rw [prI_of h]; rfl
theorem Prs.eq {H : Hp} : ∀ {vs : List V} {ps : List Pr}, Prs H vs ps → ps = vs.map (prN H)
  | [], [], _ => rfl
  | v :: vs, p :: ps, ⟨⟨t, h1, h2⟩, h⟩ => by rw [List.map_cons, ← Prs.eq h, h1, prN_of h2]
  | [], _ :: _, h => h.elim
  | _ :: _, [], h => h.elim
theorem Prs.mem {H : Hp} : ∀ {vs : List V} {ps : List Pr}, Prs H vs ps → ∀ v ∈ vs, ∃ t a b, v = .ref t ∧ H t = some (.tup [nV a, nV b])
  | v :: vs, p :: ps, ⟨⟨t, h1, h2⟩, h⟩, u, hu => by
    rcases List.mem_cons.mp hu with rfl | hu
    · exact ⟨t, _, _, h1, h2⟩
    · exact Prs.mem h u hu
  | [], [], _, _, hu => nomatch hu
  | [], _ :: _, h, _, _ => h.elim
  | _ :: _, [], h, _, _ => h.elim
theorem prs_of {H : Hp} : ∀ {vs : List V}, (∀ v ∈ vs, ∃ t a b, v = .ref t ∧ H t = some (.tup [nV a, nV b])) → Prs H vs (vs.map (prN H))
  | [], _ => True.intro
  | v :: vs, h => by
    obtain ⟨t, a, b, e1, e2⟩ := h v (List.mem_cons_self ..)
    subst e1
    exact ⟨⟨t, rfl, by rw [prN_of e2]; exact e2⟩, prs_of fun u hu => h u (List.mem_cons_of_mem _ hu)⟩
section
variable {P : Program} {w : World} {K : PySem.W.Frag} {mg : Str → Option Value} {base : Heap} {C : Addr}
abbrev n_Graph___init__ : List Str := ["self", "n", "edges", "number", "edge", "reason", "near", "place"]
abbrev p_Graph___init__ : List Str := ["self", "n", "edges"]
theorem sc_Graph___init__ : FnScope n_Graph___init__ p_Graph___init__ (defScope s_Graph___init__) := ⟨rfl, rfl, rfl, by decide +kernel, rfl, by decide +kernel, by decide +kernel⟩
def spGInit (C : Addr) : Sp := fun vs H Q _ => ∃ (x dx l : Addr) (n : Nat) (ws : List V) (es : List Pr), vs = [.ref x, nV n, .ref l] ∧ H x = some (.ins C dx []) ∧ H l = some (.lst ws) ∧ Prs H ws es ∧ Good n es ∧ 1 ≤ n ∧ n ≤ 64 ∧ es.length ≤ 400 ∧
  ∀ (H' : Hp) (es' : List Pr) (kd : Addr), But (· = x) H H' → GrAt H' C x n es' kd → es'.Perm es → Lex es' → H kd = none → H' kd = some (.dK []) → Q .non H'
theorem ok_Graph (D : MkAt K mg "Graph" C "__init__" "Graph.__init__" s_Graph___init__) (B : Bt mg) (G : GraphC K C) (h_is_whole_graphs : Has P w K mg base CX0 1 "is_whole_graphs" p_is_whole (spIsI K))
    (h_edge_fault : Has P w K mg base CX0 2 "edge_fault" p_edge_fault spEdgeFault) (h_together : Has P w K mg base CX0 1 "together" p_together (spTogether K)) (i64 : ∃ t, mg "MOST_PLACES" = some (.int 64 t)) (i400 : ∃ t, mg "MOST_EDGES" = some (.int 400 t)) :
    HasMk P w K mg base CX0 3 "Graph" C p_Graph___init__ (spGInit C) := by
  refine hasMk_of D sc_Graph___init__ (fun _ _ _ _ _ _ us hl => match us, hl with | [_, _, _], _ => rfl) (fun vs H Q E h => ?_) (fun f cdv A outer s H vs Q E hr h => ?_)
  · obtain ⟨x, dx, l, n, ws, es, rfl, _⟩ := h
    rfl
  · obtain ⟨x, dx, l, n, ws, es, rfl, hx, hl, hws, good, hn1, hn64, he4, q⟩ := h
    refine ⟨_, (pss_cons (ps_if (PW.pt (pw_or (pt_not (pt_val (pe_h h_is_whole_graphs hr pass0 (pa_cons (pv 1) pa_nil)))) (pw_or1 (pt_not (pt_chain op_le op_le pe_int (pv 1) (pe_gint i64)))))) (pss_one ps_never) pss_nil)
  (pss_cons (ps_if (PW.pt (pw_or (pt_not (pt_val (pe_callB (isiTK (K := K) rfl) rfl B.isinstance (by decide +kernel) (pa_cons (pv 2) (pa_cons (pe_tup (pa_cons (pe_bltn (v := .ty "tuple") (u := .type "tuple") rfl B.tuple (by decide +kernel) rfl) (pa_cons (pe_bltn (v := .ty "list") (u := .type "list") rfl B.list (by decide +kernel) rfl) pa_nil))) pa_nil))))) (pw_or1 (pt_cmpR op_gt (pe_callB (lenK (K := K) rfl) rfl B.len PySem.boot_len (pa_cons (pv 2) pa_nil)) (pe_gint i400) (nomark _))))) (pss_one ps_never) pss_nil)
  (pss_cons (ps_for PassesOwn.never rfl (pi_enum rfl B.enumerate (pa_cons (pv 2) pa_nil)) (pgT (K := K) (n := 2) rfl rfl (pgs_cons (pg_name (i := 3) sc_Graph___init__.nd rfl (.inl rfl)) (pgs_cons (pg_name (i := 4) sc_Graph___init__.nd rfl (.inl rfl)) pgs_nil))) (pss_cons (ps_set (i := 5) sc_Graph___init__.nd rfl (.inl rfl) (pe_h h_edge_fault hr pass0 (pa_cons (pv 4) (pa_cons (pv 1) pa_nil))))
  (pss_one (ps_if (pt_cmpR op_notN (pv 5) pe_non (nomark _)) (pss_one ps_never) pss_nil))))
  (pss_cons (ps_fld (pv 0) (pv 1) rfl)
  (pss_cons (ps_fld (pv 0) (pe_callTy (tupK (K := K) rfl) rfl B.tuple (by decide +kernel) (pa_cons (pe_callB (sortPK (K := K) rfl) rfl B.sorted (by decide +kernel) (pa_cons (pe_lc (own := [("edge", 4)]) (g := gName 4) (tt := tYes) rfl sc_Graph___init__.nd (piL (K := K) rfl (pv 2)) (blkOk_by (N := n_Graph___init__) (sc := defScope s_Graph___init__) (by decide +kernel)) (fun _ _ _ _ _ => (pg_name (i := 4) sc_Graph___init__.nd rfl (.inl rfl))) (fun _ _ _ _ _ => pts_nil) (fun _ _ _ _ _ => (pe_callTy (tupK (K := K) rfl) rfl B.tuple (by decide +kernel) (pa_cons (pv 4) pa_nil)))) pa_nil)) pa_nil)) rfl)
  (pss_cons (ps_set (i := 6) sc_Graph___init__.nd rfl (.inl rfl) (pe_h h_together hr pass0 (pa_cons (pv 1) (pa_cons (fldK (K := K) rfl (pv 0) rfl) (pa_cons pe_int pa_nil)))))
  (pss_cons (ps_for PassesOwn.never rfl (pi_range1 rfl B.range (pa_cons (pv 1) pa_nil)) (pg_name (i := 7) sc_Graph___init__.nd rfl (.inl rfl)) (pss_one (ps_if (pt_not (pt_val (pe_ix (ixL (K := K) rfl) (pv 6) (pv 7) (fun _ _ => rfl)))) (pss_one ps_never) pss_nil)))
  (pss_cons (ps_fld (pv 0) (pe_op op_add (pe_op op_sub (pe_callB (lenK (K := K) rfl) rfl B.len PySem.boot_len (pa_cons (fldK (K := K) rfl (pv 0) rfl) pa_nil)) (pv 1)) pe_int) rfl)
  (pss_one (ps_fld (pv 0) (pe_dnewK) rfl)))))))))), ?_⟩
    refine ⟨_, rfl, _, _, rfl, .int _, _, rfl, iteF ?_⟩
    refine ⟨_, rfl, _, _, rfl, rfl, _, rfl, ifD (fun _ => ?_) (fun h => absurd (by omega) h)⟩
    refine ⟨_, _, rfl, rfl, _, rfl, ifN (fun h => absurd (by omega) h) (fun _ => ?_)⟩
    -- edges
    refine ⟨_, rfl, by show 2 ≤ sizeLine; decide, fun tp ntp => ?_⟩
    have s1 : Same H (upd H tp (.tup [.ty "tuple", .ty "list"])) := same_upd ntp
    generalize hH1 : upd H tp (.tup [.ty "tuple", .ty "list"]) = H1 at s1
    have htp : H1 tp = some (.tup [.ty "tuple", .ty "list"]) := by rw [← hH1]; exact upd_same
    have hl1 := s1 _ _ hl
    refine ⟨_, tp, _, _, _, true, rfl, htp, .cons (.ty _) (.cons (.ty _) .nil), ty_l (SqL.of hl1), kt_tl (.list []), _, rfl, iteF ?_⟩
    have hlen := hws.len
    refine ⟨_, rfl, _, ws.length, rfl, .inl ⟨_, SqL.of hl1, rfl⟩, _, _, rfl, rfl, _, rfl, ifD (fun h => absurd h (by omega)) fun _ => ?_⟩
    -- for number, edge
    refine ⟨_, rfl, l, ws, rfl, SqL.of hl1, ?_⟩
    refine for_enL (K := K) (a := l) (xs := ws) (fun i σ H' => ∃ (y z u : Option V), σ = [some (.ref x), some (nV n), some (.ref l), y, z, u, none, none] ∧ Same H H') ⟨none, none, none, rfl, s1⟩ (fun i σ H' _ p => by obtain ⟨_, _, _, _, sm⟩ := p; exact SqL.of (sm _ _ hl)) ?_ ?_
    · rintro i v T σ H2 hv ⟨y, z, u, rfl, sm⟩ nT
      have hi : i < es.length := by rw [← hlen]; exact (List.getElem?_eq_some_iff.mp hv).1
      obtain ⟨t, e1, e2⟩ := hws.get hi
      rw [hv] at e1
      obtain rfl := Option.some.inj e1
      obtain ⟨g1, g2⟩ := good.1 _ (List.getElem_mem hi)
      have sT : Same H2 (upd H2 T (.tup [.int (i : Nat), .ref t])) := same_upd nT
      refine ⟨T, _, rfl, SqT.of upd_same, rfl, _, _, rfl, _, _, rfl, rfl, ?_⟩
      refine ⟨_, rfl, _, rfl, t, _, _, n, rfl, sT _ _ (sm _ _ e2), g1, g2, fun H3 sm3 => ?_⟩
      refine ⟨_, rfl, rfl, _, rfl, iteF ?_⟩
      exact ⟨_, _, _, rfl, (sm.trans sT).trans sm3⟩
    rintro σ H2 ⟨y, z0, u, rfl, sm2⟩
    -- self.n
    refine ⟨_, rfl, _, rfl, x, C, dx, [], rfl, sm2 _ _ hx, G.cls, G.n, by decide, ?_⟩
    have hx2 := sm2 _ _ hx
    have b3 : But (· = x) H (upd H2 x (.ins C dx [("n", nV n)])) := (Same.but sm2).trans (But.mut (X := (· = x)) rfl)
    have hx3 : (upd H2 x (.ins C dx [("n", nV n)])) x = some (.ins C dx [("n", nV n)]) := upd_same
    show tSeq _ _ _ _ (upd H2 x (.ins C dx [("n", nV n)]))
    generalize upd H2 x (.ins C dx [("n", nV n)]) = H3 at b3 hx3 ⊢
    have nl : ¬ l = x := fun z => by rw [z, hx] at hl; cases hl
    have nt : ∀ t xs, H t = some (.tup xs) → ¬ t = x := fun t xs e z => by rw [z, hx] at e; cases e
    -- self.edges
    refine ⟨_, rfl, l, rfl, ⟨_, SqL.of (b3 _ _ nl hl)⟩, fun L nL => ?_⟩
    refine lc_list (K := K) (a := l) (xs := ws) (fun i H4 => Same H3 H4 ∧ H4 L = some (.lst (ws.take i))) ⟨same_upd nL, upd_same⟩ (fun i H4 _ p => SqL.of (p.1 _ _ (b3 _ _ nl hl))) ?_ ?_
    · rintro i v H4 hv ⟨sm, hL⟩
      have hi : i < es.length := by rw [← hlen]; exact (List.getElem?_eq_some_iff.mp hv).1
      obtain ⟨t, e1, e2⟩ := hws.get hi
      rw [hv] at e1
      obtain rfl := Option.some.inj e1
      refine ⟨rfl, yes_ ?_⟩
      refine ⟨_, rfl, t, _, rfl, .inr ⟨SqT.of (sm _ _ (b3 _ _ (nt _ _ e2) e2)), ?_⟩⟩
      refine ⟨_, hL, size_lt (by rw [List.length_take]; omega), same_mut sm nL, ?_⟩
      rw [upd_same, List.take_add_one, hv]; rfl
    rintro H4 ⟨sm4, hL⟩
    rw [List.take_length] at hL
    have b4 : But (· = x) H H4 := b3.trans (Same.but sm4)
    have hx4 := sm4 _ _ hx3
    have hws4 : Prs H4 ws es := hws.mono fun t a b e => b4 _ _ (nt _ _ e) e
    refine ⟨L, ws, prI H4, rfl, SqL.of hL, fun v hv => ?_, fun ys p hs hb np => ?_⟩
    · obtain ⟨t, a, b, e1, e2⟩ := hws4.mem v hv
      subst e1
      exact ⟨t, rfl, by rw [prI_of e2]; exact e2⟩
    have lys : ys.length = es.length := by rw [hb.perm.length_eq, hlen]
    refine ⟨p, ys, rfl, .inl ⟨SqL.of upd_same, fun eT nT => ?_⟩⟩
    have s6 : Same H4 (upd (upd H4 p (.lst ys)) eT (.tup ys)) := (same_upd np).trans (same_upd nT)
    have heT : (upd (upd H4 p (.lst ys)) eT (.tup ys)) eT = some (.tup ys) := upd_same
    generalize upd (upd H4 p (.lst ys)) eT (.tup ys) = H6 at s6 heT ⊢
    have hx6 := s6 _ _ hx4
    have b6 : But (· = x) H H6 := b4.trans (Same.but s6)
    have hys6 : Prs H6 ys (ys.map (prN H4)) := (prs_of fun v hv => by
      obtain ⟨t, a, b, e1, e2⟩ := hws4.mem v (hb.perm.mem_iff.mp hv)
      exact ⟨t, a, b, e1, e2⟩ : Prs H4 ys (ys.map (prN H4))).same s6
    have hperm : (ys.map (prN H4)).Perm es := by
      rw [hws4.eq]; exact hb.perm.map _
    have hlex : Lex (ys.map (prN H4)) := by
      refine List.pairwise_map.mpr (List.Pairwise.imp_of_mem (fun {a b} ha hb' h => ?_) hs)
      have h := SrtO.lexB_no.mp h
      obtain ⟨t, a1, a2, rfl, e2⟩ := hws4.mem a (hb.perm.mem_iff.mp ha)
      obtain ⟨t', b1, b2, rfl, e2'⟩ := hws4.mem b (hb.perm.mem_iff.mp hb')
      rw [prI_of e2, prI_of e2'] at h
      rw [prN_of e2, prN_of e2']
      have h : ¬ ((b1 : Int) < (a1 : Int) ∨ (b1 : Int) = a1 ∧ (b2 : Int) < a2) := h
      show a1 < b1 ∨ a1 = b1 ∧ a2 ≤ b2
      omega
    generalize ys.map (prN H4) = es' at hys6 hperm hlex
    have good' := good.perm hperm
    have les : es'.length = es.length := hperm.length_eq
    refine ⟨_, rfl, x, C, dx, _, rfl, hx6, G.cls, G.edges, by show 1 < 1000; decide, ?_⟩
    have b7 : But (· = x) H (upd H6 x (.ins C dx [("n", nV n), ("edges", .ref eT)])) := b6.trans (But.mut (X := (· = x)) rfl)
    have hx7 : (upd H6 x (.ins C dx [("n", nV n), ("edges", .ref eT)])) x = some (.ins C dx [("n", nV n), ("edges", .ref eT)]) := upd_same
    have neT : eT ≠ x := fun z => by rw [z, hx6] at heT; cases heT
    have heT7 : (upd H6 x (.ins C dx [("n", nV n), ("edges", .ref eT)])) eT = some (.tup ys) := by rw [upd_ne neT]; exact heT
    have hys7 : Prs (upd H6 x (.ins C dx [("n", nV n), ("edges", .ref eT)])) ys es' := hys6.mono fun t a b e => by
      have : t ≠ x := fun z => by rw [z, hx6] at e; cases e
      rw [upd_ne this]; exact e
    show tSeq _ _ _ _ (upd H6 x (.ins C dx [("n", nV n), ("edges", .ref eT)]))
    generalize upd H6 x (.ins C dx [("n", nV n), ("edges", .ref eT)]) = H7 at b7 hx7 heT7 hys7 ⊢
    -- near
    refine ⟨_, rfl, _, rfl, x, C, dx, _, _, rfl, hx7, G.cls, G.edges, rfl, ?_⟩
    refine ⟨n, 0, eT, ys, es', rfl, .inr (SqT.of heT7), hys7, fun e he => ?_, by omega, by omega, by omega, fun H8 N F sm8 nN hN lF hF => ?_⟩
    · have := good'.1 e he
      omega
    refine ⟨_, rfl, _, rfl, by omega, by omega, for_range (lo := 0) (n := n) (fun i σ H' => ∃ (z : Option V), σ = [some (.ref x), some (nV n), some (.ref l), y, z0, u, some (.ref N), z] ∧ H' = H8) ?_ ?_ ?_⟩
    · exact ⟨_, rfl, rfl⟩
    · rintro i σ H' hi ⟨z, rfl, rfl⟩
      have hr := (hF i).mpr (good'.reach hi)
      have ei : V.int (0 + (i : Int)) = nV i := by rw [Int.zero_add]
      rw [ei]
      refine ⟨_, rfl, _, rfl, _, _, i, .bl true, rfl, rfl, SqL.of hN, atI_nat (by rw [List.getElem?_map, hr]; rfl), _, rfl, iteF ?_⟩
      exact ⟨_, rfl, rfl⟩
    · rintro σ H' ⟨z, rfl, rfl⟩
      -- genus
      have hx8 := sm8 _ _ hx7
      have heT8 := sm8 _ _ heT7
      have hys8 := hys7.same sm8
      have l8 := hys8.len
      refine ⟨_, rfl, x, C, dx, _, _, rfl, hx8, G.cls, G.edges, rfl, ?_⟩
      refine ⟨_, ys.length, rfl, .inr ⟨_, SqT.of heT8, rfl⟩, ?_⟩
      refine ⟨_, rfl, _, _, rfl, rfl, _, _, rfl, rfl, _, rfl, x, C, dx, _, rfl, hx8, G.cls, G.genus, by show 2 < 1000; decide, ?_⟩
      have eg : V.int ((ys.length : Int) - n + 1) = .int ((es'.length : Int) - n + 1) := by rw [l8]
      intro kd nkd
      have b9 : But (· = x) H (upd H' x (.ins C dx [("n", nV n), ("edges", .ref eT), ("genus", .int ((ys.length : Int) - n + 1))])) := (b7.trans (Same.but sm8)).trans (But.mut (X := (· = x)) rfl)
      have hx9 : (upd H' x (.ins C dx [("n", nV n), ("edges", .ref eT), ("genus", .int ((ys.length : Int) - n + 1))])) x = some (.ins C dx [("n", nV n), ("edges", .ref eT), ("genus", .int ((ys.length : Int) - n + 1))]) := upd_same
      have c9 : But (· = x) H' (upd H' x (.ins C dx [("n", nV n), ("edges", .ref eT), ("genus", .int ((ys.length : Int) - n + 1))])) := But.mut (X := (· = x)) rfl
      have nkd : (upd H' x (.ins C dx [("n", nV n), ("edges", .ref eT), ("genus", .int ((ys.length : Int) - n + 1))])) kd = none := nkd
      show tVar _ _ (upd (upd H' x (.ins C dx [("n", nV n), ("edges", .ref eT), ("genus", .int ((ys.length : Int) - n + 1))])) kd (.dK [])) _
      generalize upd H' x (.ins C dx [("n", nV n), ("edges", .ref eT), ("genus", .int ((ys.length : Int) - n + 1))]) = H9 at b9 hx9 c9 nkd ⊢
      have s10 : Same H9 (upd H9 kd (.dK [])) := same_upd nkd
      have nkx : kd ≠ x := fun z => by rw [z, hx9] at nkd; cases nkd
      refine ⟨_, rfl, x, C, dx, _, rfl, s10 _ _ hx9, G.cls, G.kept, by show 3 < 1000; decide, ?_⟩
      refine q _ es' kd ((b9.trans (Same.but s10)).trans (But.mut (X := (· = x)) rfl)) ⟨dx, eT, ys, ?_, ?_, ?_⟩ hperm hlex ?_ ?_
      · rw [upd_same, ← eg]; rfl
      · rw [upd_ne neT]
        exact s10 _ _ (c9 _ _ neT heT8)
      · refine hys8.mono fun t a b e => ?_
        have : t ≠ x := fun z => by rw [z, hx8] at e; cases e
        rw [upd_ne this]
        exact s10 _ _ (c9 _ _ this e)
      · cases e : H kd with
        | none => rfl
        | some o =>
          rw [b9 _ _ nkx e] at nkd
          cases nkd
      · rw [upd_ne nkx]; exact upd_same
end
end G3

set_option Elab.async false
set_option linter.all false
set_option maxRecDepth 100000
set_option maxHeartbeats 1000000
/-! tuple.index, flat items -/
namespace G3
open PySem PySem.Spec PyProof.Rows L2
section
variable {X : Cx}
def rIndexT (K : PySem.W.Frag) : V → List V → Hp → VK → Prop := fun x xs H Q => ∃ (a : Addr) (ys : List V) (y : V) (j : Nat) (z : V), x = V.ref a ∧ xs = [y] ∧ SqT K H a ys ∧ flatV y = true ∧ ys.all flatV = true ∧ ys[j]? = some z ∧ eqV z y = true ∧
  (∀ (m : Nat) (z' : V), m < j → ys[m]? = some z' → eqV z' y = false) ∧ Q (.int (j : Nat)) H
theorem mt_indexT (K : PySem.W.Frag) (hK : X.K = K) : MtR X "tuple.index" (rIndexT K) := by
  subst hK
  intro pins s σ H x xs v us Q I rx rxs h
  obtain ⟨a, ys, y, j, z, rfl, rfl, hs, fy, fys, hz, hzj, hno, q⟩ := h
  cases rx
  cases rxs with
  | cons ry rt =>
    rename_i uy ut
    cases rt
    obtain ⟨its, rv, pl, hlen⟩ := I.tuple hs
    obtain ⟨⟨cls, dd, dt, sl⟩, ho, hc, n, hd⟩ := pl
    simp only at hc hd
    subst hc hd
    obtain ⟨u, hu, ru⟩ := rv.get hz
    obtain ⟨hjl, hje⟩ := List.getElem?_eq_some_iff.mp hu
    have hvl := rv.length
    have hj : j < its.toArray.size := by simpa using hjl
    refine call_meets PySem.F.slot_tuple_index ⟨_, ho, rfl⟩ PySem.F.entry_tuple_index (PySem.F.args_tuple_index_2 _ _) (TI.tuple_indexAt a its.toArray n dd sl uy (eqU y) j hj ?_ ?_)
      ⟨ho, fun w hw => mem_eqAt ry fy rv fys w (by simpa using hw), ⟨.int (j : Nat), H, I.tok _, ⟨_, rfl⟩, q⟩⟩
    · have e1 : its.toArray[j] = u := by simpa using hje
      rw [e1, eqU_of ru (flat_at fys hz)]
      exact hzj
    · intro m hm hmj
      have hml : m < its.length := by simpa using hm
      have hmy : m < ys.length := by omega
      have hy' : ys[m]? = some ys[m] := List.getElem?_eq_getElem hmy
      obtain ⟨u2, hu2, ru2⟩ := rv.get hy'
      obtain ⟨_, hme⟩ := List.getElem?_eq_some_iff.mp hu2
      have e1 : its.toArray[m] = u2 := by simpa using hme
      rw [e1, eqU_of ru2 (flat_at fys hy')]
      exact hno m _ hmj hy'
variable {o e : Expr} {es : List Expr} {to : TE} {t : TA} {name : Str} {apos cpos : Pos} {T id : String} {r : V → List V → Hp → VK → Prop}
/-- a method of a built-in class, within a comprehension -/
theorem pe_bmK {K : PySem.W.Frag} (hK : X.K = K) (pa : PlainAttrs T) (slot : Slot T name id) (hty : typeOf (.builtin id) = pure (.type "method_descriptor")) (hm : MtR X id r) (ho : PE X o to) (ha : PA X (e :: es) t)
    (hbase : attributeBase o name X.env (eval o X.env) = eval o X.env := by rfl)
    (hfew : ((backTo cpos (starEach (e :: es) X.env)).all (fun x => !x.1) && (backToKw cpos (keywordEach [] X.env)).all (fun x => x.1.isSome)
      && decide ((e :: es).length + ([] : List Keyword).length + (if ([] : List Keyword).isEmpty then 0 else 1) < 30)) = true := by rfl)
    (hline : (apos.endLine == cpos.line) = true := by rfl) (hs : starEach (e :: es) X.env = (false, eval e X.env) :: starEach es X.env := by rfl) (hplain : (backTo cpos (starEach es X.env)).any (·.1) = false := by rfl) :
    PE X (.Call (.Attribute o name apos) (e :: es) [] cpos) (tBM K T r to t) := hK ▸ pe_bm pa slot hty hm ho ha hbase hfew hline hs hplain
/-! ### tuples whose object is known to have no dict: laid frozen -/
def Bare (ob : Obj) : Prop := ob.cls = .type "tuple" ∧ ob.dict = none
def tTupF (t : TA) : TE := fun σ H Q => t σ H fun xs H1 => xs.length ≤ sizeLine ∧ ∀ (p : Addr) (ob : Obj), H1 p = none → Bare ob → Q (.ref p) (upd H1 p (.frz ob (.tup xs)))
theorem pe_tupF {pos : Pos} {x1} (h : PA X es t) : PE X (.Tuple es x1 pos) (tTupF t) := by
  refine ⟨fun pins s σ H Q I hq => ?_⟩
  refine wpAny_Tuple_spliced (thn (h.run pos pins s σ H _ I hq) fun us s1 ⟨xs, H1, I1, r, z, q⟩ => ⟨by rw [← r.length]; exact z, ?_⟩)
  have hf : H1 s1.heap.objs.size = none := I1.hok.fresh (Nat.le_refl _)
  refine ⟨.ref s1.heap.objs.size, upd H1 s1.heap.objs.size (.frz { cls := .type "tuple", data := .seq us.toArray } (.tup xs)), I1.laid (t' := s1.toks) (fun b u e => Heap.get?_push_of_some _ e) (Nat.le_refl _) ?_, rfl, q _ _ hf ⟨rfl, rfl⟩⟩
  exact ⟨Heap.get?_push_size _ rfl, z, us, r, ⟨_, Heap.get?_push_size _ rfl, rfl, _, rfl⟩⟩
def rCatF (K : PySem.W.Frag) : R2 := fun x y H Q => ∃ a b xs ys, x = .ref a ∧ y = .ref b ∧ SqT K H a xs ∧ SqT K H b ys ∧ xs.length + ys.length ≤ sizeLine ∧ ys ≠ [] ∧ (xs = [] → Q (.ref b) H) ∧
  (xs ≠ [] → ∀ (p : Addr) (ob : Obj), H p = none → Bare ob → Q (.ref p) (upd H p (.frz ob (.tup (xs ++ ys)))))
theorem op_catF {K : PySem.W.Frag} (hK : X.K = K) : OpR X (binaryOp .Add) (rCatF K) := by
  subst hK
  intro pins s σ H x y v u Q I rx ry h
  obtain ⟨a, b, xs, ys, rfl, rfl, ha, hb, hz, hy, q0, q2⟩ := h
  cases rx
  cases ry
  obtain ⟨its, r1, p1, _⟩ := I.tuple ha
  obtain ⟨its2, r2, p2, _⟩ := I.tuple hb
  by_cases hx : xs = []
  · subst hx
    cases r1
    exact cat_tup0 p1 p2 ⟨.ref b, H, I, rfl, q0 rfl⟩
  · refine HT.cat_tup p1 p2 (fun z => hx (r1.nil_iff.mp z)) (fun z => absurd (r2.nil_iff.mp z) hy) (fun z => ?_) (by rw [← r1.length, ← r2.length]; exact hz)
    refine ⟨.ref s.heap.objs.size, _, I.laid (t' := s.toks) (o := .frz { cls := .type "tuple", data := .seq (its ++ its2).toArray } (.tup (xs ++ ys))) (fun b ob q => Heap.get?_push_of_some _ q) (Nat.le_refl _) ?_, rfl, q2 hx _ _ (I.hok.fresh (Nat.le_refl _)) ⟨rfl, rfl⟩⟩
    exact ⟨Heap.get?_push_size _ rfl, by rw [List.length_append]; exact hz, _, r1.append r2, ⟨_, Heap.get?_push_size _ rfl, rfl, _, rfl⟩⟩
def tBMT (r : V → List V → Hp → VK → Prop) (to : TE) (t : TA) : TE := fun σ H Q => to σ H fun x H1 => (∃ (p : Addr) (ob : Obj) (xs : List V), x = .ref p ∧ H1 p = some (.frz ob (.tup xs)) ∧ Bare ob) ∧ t σ H1 fun xs H2 => r x xs H2 Q
theorem pe_bmT (slot : Slot "tuple" name id) (hty : typeOf (.builtin id) = pure (.type "method_descriptor")) (hm : MtR X id r) (ho : PE X o to) (ha : PA X (e :: es) t)
    (hbase : attributeBase o name X.env (eval o X.env) = eval o X.env := by rfl)
    (hfew : ((backTo cpos (starEach (e :: es) X.env)).all (fun x => !x.1) && (backToKw cpos (keywordEach [] X.env)).all (fun x => x.1.isSome)
      && decide ((e :: es).length + ([] : List Keyword).length + (if ([] : List Keyword).isEmpty then 0 else 1) < 30)) = true := by rfl)
    (hline : (apos.endLine == cpos.line) = true := by rfl) (hs : starEach (e :: es) X.env = (false, eval e X.env) :: starEach es X.env := by rfl) (hplain : (backTo cpos (starEach es X.env)).any (·.1) = false := by rfl) :
    PE X (.Call (.Attribute o name apos) (e :: es) [] cpos) (tBMT r to t) := by
  refine ⟨fun pins s σ H Q I h => ?_⟩
  refine wpAny_Call_method_late hbase hfew hline rfl (thn (ho.run pins s σ H _ I h) fun v s1 ⟨x, H1, I1, r1, ty, q1⟩ => ?_)
  obtain ⟨p, ob, xs, rfl, hp, hcls, hdict⟩ := ty
  obtain ⟨hg, _⟩ := I1.hok p _ hp
  cases r1
  refine ⟨"tuple", id, PySem.F.plainAttrs_tuple, slot, hty, ⟨ob, hg, hcls⟩, fun a e => by cases e; exact ⟨ob, hg, hdict⟩, ?_⟩
  have hA := ha.run cpos pins s1 σ H1 _ I1 q1
  rw [hs] at hA ⊢
  refine Calls.callWith_builtin (by show (false || (backTo cpos (starEach es X.env)).any (·.1)) = false; rw [hplain] <;> rfl) (Calls.evalArgs_plain ?_)
  exact thn hA fun us s2 ⟨vs, H2, I2, r2, q2⟩ => hm pins s2 σ H2 _ vs _ us Q I2 (show RelV (.ref p) (.ref p) from rfl) r2 q2
end
end G3

set_option Elab.async false
set_option linter.all false
set_option maxRecDepth 100000
set_option maxHeartbeats 1000000
/-! min of a list of alike data; tuples put together, frozen; a def that raises nothing here -/
namespace G3
open PySem PySem.Spec PyProof.Rows L2
section
variable {prog : Program} {w : World} {A : Around} {E : Value → Shared → Prop} {s : Shared}
theorem min_list_ix {l : Addr} {vs : Array Value} {x : PyData} {xs : List PyData} {as : List Addr} {Q : Value → Shared → Prop} (hh : A.handled = none) (hl : s.heap.IsList l vs) (hr : ReadsAll s.heap vs.toList (x :: xs) as) (ha : PySem.W.AlikeAll (x :: xs)) (hu : A.units + 1 + PyData.depthAll (x :: xs) < cLine)
    (h : ∀ (i : Nat) v h' tk, vs[i]? = some v → (x :: xs).getD i .none = PySem.W.minD x xs → (∀ b o, s.heap.get? b = some o → h'.get? b = some o) → Q v { s with heap := h', toks := tk }) :
    wpAny (model prog w) A (call (.builtin "min") [.ref l]) Q E s := by
  have hn : vs.size = xs.length + 1 := PySem.W.readsAll_len hr
  refine PySem.call_min_walkH (PySem.W.iter_listW (A := A.in1) hh hl fun s₂ e W st hfp hw hk => ?_)
  refine ⟨_, _, _, _, _, _, _, s.heap, _, rfl, W, st, hfp, by omega, hw, hk, PySem.W.cmpIn_lt (A := A.in1) hr ha (by show A.units + 1 + _ < _; exact hu), fun v s' hP m => ?_⟩
  obtain ⟨h', tk, rfl, hk'⟩ := PySem.W.moved_old e rfl m
  have e1 : vs.size - 1 = xs.length := by omega
  have e2 := (PySem.W.argBest_fold PySem.W.dataLt PyData.none x xs xs.length (Nat.le_refl _)).2
  rw [List.take_length] at e2
  rw [e1] at hP
  exact h _ v h' tk hP e2 hk'
end
section
variable {X : Cx}
def rMinD (K : PySem.W.Frag) : List V → Hp → VK → Prop := fun vs H Q => ∃ (p : Addr) (xs : List V) (d : PyData) (ds : List PyData), vs = [.ref p] ∧ SqL K H p xs ∧ DpAll K H xs (d :: ds) ∧ PySem.W.AlikeAll (d :: ds) ∧ PyData.depthAll (d :: ds) ≤ 60 ∧
  ∀ (i : Nat) v, xs[i]? = some v → (d :: ds).getD i .none = PySem.W.minD d ds → Q v H
theorem call_minDL {K : PySem.W.Frag} (hK : X.K = K) (hc : X.calm = true) (hu : X.A.units + 64 < cLine) : CallR X (.builtin "min") (rMinD K) := by
  subst hK
  intro pins s σ H vs us Q I r h
  obtain ⟨p, xs, d, ds, rfl, hs, hd, ha, hdp, q⟩ := h
  obtain ⟨its, rv, hl, _⟩ := I.list hs
  obtain rfl := Vals.ref1 r
  obtain ⟨as, rd⟩ := Dp.readsAll I (d :: ds) xs its hd rv
  refine min_list_ix (I.ok.hd hc) hl.isList rd ha (by omega) fun i v h' tk hi e k => ?_
  have hi2 : its[i]? = some v := by simpa using hi
  have hlen : i < xs.length := by rw [rv.length]; exact (List.getElem?_eq_some_iff.mp hi2).1
  obtain ⟨u, hu2, ru⟩ := rv.get (List.getElem?_eq_getElem hlen)
  rw [hi2] at hu2
  cases hu2
  exact ⟨_, H, I.kept k, ru, q i _ (List.getElem?_eq_getElem hlen) e⟩
/-- tuples put together, the second one empty or not; a new one is frozen -/
def rCatG (K : PySem.W.Frag) : R2 := fun x y H Q => ∃ a b xs ys, x = .ref a ∧ y = .ref b ∧ SqT K H a xs ∧ SqT K H b ys ∧ xs.length + ys.length ≤ sizeLine ∧ xs ≠ [] ∧ (ys = [] → Q (.ref a) H) ∧
  (ys ≠ [] → ∀ (p : Addr) (ob : Obj), H p = none → Bare ob → Q (.ref p) (upd H p (.frz ob (.tup (xs ++ ys)))))
theorem op_catG {K : PySem.W.Frag} (hK : X.K = K) : OpR X (binaryOp .Add) (rCatG K) := by
  subst hK
  intro pins s σ H x y v u Q I rx ry h
  obtain ⟨a, b, xs, ys, rfl, rfl, ha, hb, hz, hx, q0, q2⟩ := h
  cases rx
  cases ry
  obtain ⟨its, r1, p1, _⟩ := I.tuple ha
  obtain ⟨its2, r2, p2, _⟩ := I.tuple hb
  refine HT.cat_tup p1 p2 (fun z => absurd (r1.nil_iff.mp z) hx) (fun z => ⟨.ref a, H, I, rfl, q0 (r2.nil_iff.mp z)⟩) (fun z => ?_) (by rw [← r1.length, ← r2.length]; exact hz)
  by_cases hy : ys = []
  · exact absurd (r2.nil_iff.mpr hy) (by first | exact z | exact z.2 | exact fun e => z.2 e)
  refine ⟨.ref s.heap.objs.size, _, I.laid (t' := s.toks) (o := .frz { cls := .type "tuple", data := .seq (its ++ its2).toArray } (.tup (xs ++ ys))) (fun b ob q => Heap.get?_push_of_some _ q) (Nat.le_refl _) ?_, rfl, q2 hy _ _ (I.hok.fresh (Nat.le_refl _)) ⟨rfl, rfl⟩⟩
  exact ⟨Heap.get?_push_size _ rfl, by rw [List.length_append]; exact hz, _, r1.append r2, ⟨_, Heap.get?_push_size _ rfl, rfl, _, rfl⟩⟩
end
/-- raises nothing, so it is told -/
theorem Has.quiet {P : Program} {w : World} {K : PySem.W.Frag} {mg : Str → Option Value} {base : Heap} {k : Nat} {x : Str} {ps : List Str} {sp : Sp} (h : Has P w K mg base (L2.CX P w) k x ps sp) : Has P w K mg base CX0 k x ps (fun vs H Q _ => sp vs H Q (fun _ _ _ => False)) := by
  obtain ⟨f, fd, F, m, kp, b⟩ := h
  refine ⟨f, fd, ⟨fun vs H Q E h => F.len _ _ _ _ h, fun A outer s H args us vs Q E hr e0 hb hv hs => ?_⟩, m, kp, b⟩
  refine codeAny_mono (F.run A outer s H args us vs Q _ hr e0 hb hv hs) fun r s' hq => ?_
  cases r with
  | error e =>
    obtain ⟨a, B, H', cls, d, _, _, _, _, _, _, _, z⟩ := hq
    exact z.elim
  | ok fl =>
    cases fl with
    | ret u => exact hq
    | next => exact hq
    | brk => exact hq
    | cont => exact hq
/-! ## rows of something -/
def All2 {α : Type} (R : V → α → Prop) : List V → List α → Prop
  | [], [] => True
  | v :: vs, r :: rs => R v r ∧ All2 R vs rs
  | _, _ => False
section
variable {α : Type} {R R' : V → α → Prop}
theorem All2.len : ∀ {vs : List V} {rs : List α}, All2 R vs rs → vs.length = rs.length
  | [], [], _ => rfl
  | v :: vs, r :: rs, h => by rw [List.length_cons, List.length_cons, All2.len h.2]
  | [], _ :: _, h => h.elim
  | _ :: _, [], h => h.elim
theorem All2.get : ∀ {vs : List V} {rs : List α}, All2 R vs rs → ∀ {i : Nat} {r : α}, rs[i]? = some r → ∃ v, vs[i]? = some v ∧ R v r
  | [], [], _, i, r, hi => by simp at hi
  | v :: vs, r :: rs, h, 0, r', hi => by
    cases Option.some.inj hi
    exact ⟨v, rfl, h.1⟩
  | v :: vs, r :: rs, h, i + 1, r', hi => by
    obtain ⟨u, h1, h2⟩ := All2.get h.2 (i := i) (r := r') (by simpa using hi)
    exact ⟨u, by simpa using h1, h2⟩
  | [], _ :: _, h, _, _, _ => h.elim
  | _ :: _, [], h, _, _, _ => h.elim
theorem All2.get' {vs : List V} {rs : List α} (h : All2 R vs rs) {i : Nat} {v : V} (hv : vs[i]? = some v) : ∃ r, rs[i]? = some r ∧ R v r := by
  have hi : i < rs.length := by rw [← h.len]; exact (List.getElem?_eq_some_iff.mp hv).1
  obtain ⟨u, h1, h2⟩ := h.get (List.getElem?_eq_getElem hi)
  rw [hv] at h1
  cases h1
  exact ⟨_, List.getElem?_eq_getElem hi, h2⟩
theorem All2.app : ∀ {vs vs2 : List V} {rs rs2 : List α}, All2 R vs rs → All2 R vs2 rs2 → All2 R (vs ++ vs2) (rs ++ rs2)
  | [], _, [], _, _, h => h
  | v :: vs, _, r :: rs, _, h, h2 => ⟨h.1, All2.app h.2 h2⟩
  | [], _, _ :: _, _, h, _ => h.elim
  | _ :: _, _, [], _, h, _ => h.elim
theorem All2.snoc {vs : List V} {rs : List α} {v : V} {r : α} (h : All2 R vs rs) (hr : R v r) : All2 R (vs ++ [v]) (rs ++ [r]) := h.app ⟨hr, True.intro⟩
theorem All2.mono (m : ∀ v r, R v r → R' v r) : ∀ {vs : List V} {rs : List α}, All2 R vs rs → All2 R' vs rs
  | [], [], _ => True.intro
  | v :: vs, r :: rs, h => ⟨m _ _ h.1, All2.mono m h.2⟩
  | [], _ :: _, h => h.elim
  | _ :: _, [], h => h.elim
end
/-- a row of places, laid frozen -/
def Frz (H : Hp) (v : V) (r : List Nat) : Prop := ∃ (t : Addr) (ob : Obj), v = .ref t ∧ H t = some (.frz ob (.tup (r.map fun n : Nat => V.int (n : Int)))) ∧ Bare ob
theorem Frz.same {H H' : Hp} {v : V} {r : List Nat} (h : Frz H v r) (e : Same H H') : Frz H' v r := by
  obtain ⟨t, ob, h1, h2, h3⟩ := h
  exact ⟨t, ob, h1, e _ _ h2, h3⟩
theorem frzAll_same {H H' : Hp} {vs : List V} {rs : List (List Nat)} (h : All2 (Frz H) vs rs) (e : Same H H') : All2 (Frz H') vs rs := h.mono fun _ _ h => h.same e
/-- a row of numbers, as a tuple -/
def TupI (K : PySem.W.Frag) (H : Hp) (v : V) (r : List Int) : Prop := ∃ t : Addr, v = .ref t ∧ SqT K H t (r.map V.int)
theorem TupI.same {K : PySem.W.Frag} {H H' : Hp} {v : V} {r : List Int} (h : TupI K H v r) (e : Same H H') : TupI K H' v r := by
  obtain ⟨t, h1, h2⟩ := h
  exact ⟨t, h1, Same.seqT e h2⟩
theorem tupIAll_same {K : PySem.W.Frag} {H H' : Hp} {vs : List V} {rs : List (List Int)} (h : All2 (TupI K H) vs rs) (e : Same H H') : All2 (TupI K H') vs rs := h.mono fun _ _ h => h.same e
end G3

set_option Elab.async false
set_option linter.all false
set_option maxRecDepth 100000
set_option maxHeartbeats 1000000
/-! sorted and count over data; classes whose __init__ may raise; an own == -/
namespace G3
open PySem PySem.Spec PyProof.Rows L2
section
variable {X : Cx}
theorem readsAll_each {h : Heap} : ∀ {vs : List Value} {ds : List PyData} {as : List Addr}, ReadsAll h vs ds as → ∀ {bs : List (V × PyData)}, bs.map Prod.snd = ds → PySem.W.EachIs (fun v b => ∃ as, Reads h v b.2 as) vs bs
  | [], [], _, .nil, [], _ => .nil
  | _ :: _, _ :: _, _, .cons r rs, b :: bs, e => by
    rw [List.map_cons] at e
    injection e with e1 e2
    subst e1
    exact .cons ⟨_, r⟩ (readsAll_each rs e2)
  | [], [], _, .nil, _ :: _, e => by cases e
  | _ :: _, _ :: _, _, .cons _ _, [], e => by cases e
theorem vals_each : ∀ {bs : List (V × PyData)} {vs : List Value}, Vals (bs.map Prod.fst) vs → PySem.W.EachIs (fun v (b : V × PyData) => RelV b.1 v) vs bs
  | [], [], .nil => .nil
  | b :: bs, v :: vs, h => by
    rw [List.map_cons] at h
    cases h with
    | cons r rs => exact .cons r (vals_each rs)
theorem each_vals : ∀ {vs : List Value} {bs : List (V × PyData)}, PySem.W.EachIs (fun v (b : V × PyData) => RelV b.1 v) vs bs → Vals (bs.map Prod.fst) vs
  | _, _, .nil => .nil
  | _, _, .cons r rs => by
    rw [List.map_cons]
    exact .cons r (each_vals rs)
/-- sorted(xs), xs a list of alike data -/
def rSortDt (K : PySem.W.Frag) : List V → Hp → VK → Prop := fun vs H Q => ∃ (a : Addr) (bs : List (V × PyData)), vs = [.ref a] ∧ SqL K H a (bs.map Prod.fst) ∧ DpAll K H (bs.map Prod.fst) (bs.map Prod.snd) ∧ PySem.W.AllAlike (bs.map Prod.snd) ∧ PySem.W.Sortable (bs.map Prod.snd) ∧ (∀ b ∈ bs, b.2.depth ≤ 60) ∧
  ∀ p, H p = none → Q (.ref p) (upd H p (.lst ((bs.mergeSort (PySem.W.dataLe false Prod.snd)).map Prod.fst)))
theorem cr_sortDt {K : PySem.W.Frag} (hK : X.K = K) (hu : X.A.units + 64 < cLine) : CallR X (.builtin "sorted") (rSortDt K) := by
  subst hK
  intro pins s σ H vs us Q I r h
  obtain ⟨a, bs, rfl, hs, hd, hal, hk, hdp, q⟩ := h
  obtain ⟨its, rv, hl, hz⟩ := I.list hs
  obtain rfl := Vals.ref1 r
  obtain ⟨as, rd⟩ := Dp.readsAll I (bs.map Prod.snd) (bs.map Prod.fst) its hd rv
  rw [List.length_map] at hz
  refine PySem.W.sorted_data (vs := its) (bs := bs) (enc := Prod.snd) hl.isList (vals_each rv) (readsAll_each rd rfl) hal hk hz (fun b hb => by have := hdp b hb; omega) fun out hlen he => ?_
  have rv2 := each_vals he
  obtain ⟨ep, he'⟩ := PyProof.Rows.sortedAll_at s.heap its out.toArray
  have hlen2 : ((bs.mergeSort (PySem.W.dataLe false Prod.snd)).map Prod.fst).length ≤ sizeLine := by
    rw [List.length_map, List.length_mergeSort]; exact hz
  exact ⟨.ref _, upd H (s.heap.objs.size + 1) (.lst ((bs.mergeSort (PySem.W.dataLe false Prod.snd)).map Prod.fst)), I.laid (t' := s.toks) (fun _ _ => PyProof.Rows.sortedAll_old) (Nat.le_succ _) ⟨hlen2, out, ep, rv2, he'⟩, rfl, q _ (I.hok.fresh (Nat.le_succ _))⟩
/-- xs.count(y), data -/
def rCntD (K : PySem.W.Frag) : V → List V → Hp → VK → Prop := fun x xs H Q => ∃ (p : Addr) (vs : List V) (y : V) (ds : List PyData) (d : PyData), x = .ref p ∧ xs = [y] ∧ SqL K H p vs ∧ DpAll K H vs ds ∧ Dp K H y d ∧ PyData.plainAll ds = true ∧ d.plain = true ∧ d.depth ≤ 60 ∧
  Q (.int ((ds.countP fun e => PyData.eqv e d : Nat) : Int)) H
theorem mt_countD {K : PySem.W.Frag} (hK : X.K = K) (hu : X.A.units + 64 < cLine) : MtR X "list.count" (rCntD K) := by
  subst hK
  intro pins s σ H x xs v us Q I rx rxs h
  obtain ⟨p, vs, y, ds, d, rfl, rfl, hs, hd, hy, p1, p2, dp, q⟩ := h
  cases rx
  obtain ⟨u, rfl, ru⟩ := rxs.one
  obtain ⟨its, rv, hl, hz⟩ := I.list hs
  obtain ⟨as, rd⟩ := Dp.readsAll I ds vs its hd rv
  obtain ⟨bs, ry⟩ := Dp.reads I d y u hy ru
  exact PySem.SeqAt.count_list_data (vs := its.toArray) hl.isList rd ry p1 p2 (by have := Nat.min_le_right (PyData.depthAll ds) d.depth; omega) ⟨.int _, H, I.tok _, ⟨s.toks, rfl⟩, q⟩
end
/-! ### classes whose __init__ may raise -/
theorem hasMk_ofX {P : Program} {w : World} {K : PySem.W.Frag} {mg : Str → Option Value} {base : Heap} {k : Nat} {x : Str} {C : Addr} {ps : List Str} {sp : Sp} {nm qn : Str} {st : Stmt} {N : List Str} (D : MkAt K mg x C nm qn st) (S : FnScope N ps (defScope st))
    (hb : ∀ (kV doc pm : Value) (an : Option Addr) (cdv ct : Value) (us : List Value), us.length = ps.length → bindArgs (PySem.W.fnOf nm qn (defArgs st) (defBody st) (defScope st) .none kV doc pm an cdv ct) ⟨us, []⟩ = pure (ps.zip us))
    (len : ∀ vs H Q E, sp vs H Q E → vs.length = ps.length)
    (hbody : ∀ (f : Addr) (cdv : Value) (A : Around) (outer : List Env) (s : Shared) (H : Hp) (vs : List V) (Q : VK) (E : XK), Room k (A.deeper (envOfC qn (defScope st) s.heap.objs.size f cdv)) → sp vs H Q E →
      ∃ t, PSs (cxOf (L2.CX P w) P w K mg base N qn (defScope st) f cdv A outer s H E) (defBody st) t ∧ t { nx := fun _ H' => Q .non H', rt := Q } (start N vs) H) : HasMk P w K mg base (L2.CX P w) (k + 1) x C ps sp := by
  obtain ⟨f, fd, F, M, m⟩ := D
  exact ⟨f, fd, F.okX S len (fun cdv A outer s H vs Q E hr hs => hbody f cdv A outer s H vs Q E hr hs), M, m, F.binds hb⟩
section
variable {X : Cx} {CX : CXT} {k : Nat} {f C : Addr} {fd : FuncData} {ps : List Str} {sp : Sp} {E : L2.St → XK} {x : Str} {p pos : Pos} {e : Expr} {es : List Expr} {t : TA}
theorem run_makeS {pins : List (Addr × Obj)} {σ : L2.St} {H : Hp} {s : Shared} {Q : VK} {us : List Value} {vs : List V} (M : Mk X.K C f) (F : FnOk X.prog X.w X.K X.mg X.base CX k f fd ps sp) (hr : Room (k + 1) X.A) (hb : Binds X.K fd ps [])
    (hx : PassesAt CX X σ (E σ)) (I : Inv X pins σ H s) (r : Vals vs us)
    (h : ∀ x dx, H x = none → H dx = none → dx ≠ x → sp (.ref x :: vs) (upd (upd H dx (.own x)) x (.ins C dx [])) (fun v H2 => v = .non ∧ Q (.ref x) H2) (E σ)) :
    wpAny (model X.prog X.w) X.A (call (.ref C) us) (EP X pins σ Q) X.xe s := by
  have hq := h (s.heap.objs.size + 1) s.heap.objs.size (I.hok.fresh (Nat.le_succ _)) (I.hok.fresh (Nat.le_refl _)) (Nat.ne_of_lt (Nat.lt_succ_self _))
  have I2 := Inv.made (C := C) I
  have r2 : Vals (V.ref (s.heap.objs.size + 1) :: vs) (Value.ref (s.heap.objs.size + 1) :: us) := .cons rfl r
  have hl : (Value.ref (s.heap.objs.size + 1) :: us ++ []).length = ps.length := by
    rw [List.append_nil]
    have e := r2.length
    rw [F.len _ _ _ _ hq] at e
    exact e.symm
  refine wpAny_call (make_map (f := f) I.kIn M.makes M.init (beq_iff_eq.mp M.fn) (codeAny_mono (F.run _ X.stack _ _ ⟨Value.ref (s.heap.objs.size + 1) :: us, []⟩ (Value.ref (s.heap.objs.size + 1) :: us) _ _ (E σ) (hr.make C us [])
    (I2.env0.make C us []) (by
      have b := hb _ (Value.ref (s.heap.objs.size + 1) :: us) I2.kIn hl
      rwa [List.append_nil] at b) r2 hq) fun r s' hq' => ?_))
  cases r with
  | error e => exact hx pins _ _ e s' I2 hq'
  | ok fl =>
    cases fl with
    | ret u =>
      obtain ⟨v, H', I3, rv, ev, q3⟩ := I2.after hq'
      subst ev
      exact ⟨rv, ⟨V.ref (s.heap.objs.size + 1), H', I3, rfl, q3⟩⟩
    | next => exact False.elim hq'
    | brk => exact False.elim hq'
    | cont => exact False.elim hq'
def tMakeS (C : Addr) (sp : Sp) (E : L2.St → XK) (t : TA) : TE := fun σ H Q => t σ H fun vs H1 => ∀ x dx, H1 x = none → H1 dx = none → dx ≠ x → sp (.ref x :: vs) (upd (upd H1 dx (.own x)) x (.ins C dx [])) (fun v H2 => v = .non ∧ Q (.ref x) H2) (E σ)
theorem pe_makeS {j : Nat} (h : HasMk X.prog X.w X.K X.mg X.base CX k x C ps sp) (hr : Room j X.A) (hx : ∀ σ, PassesAt CX X σ (E σ))
    (ha : PA X (e :: es) t) (hk : k + 1 ≤ j := by first | decide | omega) (hg : Gl X x := by rfl) (hdb : (x == ("__debug__" : Str)) = false := by decide) (he : starEach (e :: es) X.env = (false, eval e X.env) :: starEach es X.env := by rfl) (hpl : (backTo pos (starEach es X.env)).any (·.1) = false := by rfl) :
    PE X (.Call (.Name x p) (e :: es) [] pos) (tMakeS C sp E t) := by
  obtain ⟨f, fd, F, M, m, b⟩ := h
  refine ⟨fun pins s σ H Q I h => ?_⟩
  refine wpAny_Call_Name_kw (ld_glob I hg m ?_ hdb)
  refine PySem.W.callWith_K (h₀ := X.base) I.ok.mod.kin M.kp (thn (ha.run pos pins s σ H _ I h) fun us s1 ⟨vs, H1, I1, r, q⟩ => ⟨I1.kIn, ?_⟩) he hpl
  exact run_makeS M F (hr.mono hk) b (hx σ) I1 r q
end
/-- raises nothing here -/
theorem HasMk.quiet {P : Program} {w : World} {K : PySem.W.Frag} {mg : Str → Option Value} {base : Heap} {k : Nat} {x : Str} {C : Addr} {ps : List Str} {sp : Sp} (h : HasMk P w K mg base (L2.CX P w) k x C ps sp) : HasMk P w K mg base CX0 k x C ps (fun vs H Q _ => sp vs H Q (fun _ _ _ => False)) := by
  obtain ⟨f, fd, F, m, kp, b⟩ := h
  refine ⟨f, fd, ⟨fun vs H Q E h => F.len _ _ _ _ h, fun A outer s H args us vs Q E hr e0 hb hv hs => ?_⟩, m, kp, b⟩
  refine codeAny_mono (F.run A outer s H args us vs Q _ hr e0 hb hv hs) fun r s' hq => ?_
  cases r with
  | error e =>
    obtain ⟨a, B, H', cls, d, _, _, _, _, _, _, _, z⟩ := hq
    exact z.elim
  | ok fl =>
    cases fl with
    | ret u => exact hq
    | next => exact hq
    | brk => exact hq
    | cont => exact hq
/-! ### an own == -/
def EqAt (K : PySem.W.Frag) (C : Addr) (nm qn : Str) (st : Stmt) : Prop := ∃ f fd, Fun K nm qn st f fd ∧ PySem.W.findIn K (.ref C) "__eq__" = some (some (.ref f)) ∧ PySem.W.isFn K (.ref f) = true
def HasEq (P : Program) (w : World) (K : PySem.W.Frag) (mg : Str → Option Value) (base : Heap) (k : Nat) (C : Addr) (ps : List Str) (sp : Sp) : Prop :=
  ∃ f fd, FnOk P w K mg base CX0 k f fd ps sp ∧ PySem.W.findIn K (.ref C) "__eq__" = some (some (.ref f)) ∧ PySem.W.isFn K (.ref f) = true ∧ Binds K fd ps []
theorem hasEq_of {P : Program} {w : World} {K : PySem.W.Frag} {mg : Str → Option Value} {base : Heap} {k : Nat} {C : Addr} {ps : List Str} {sp : Sp} {nm qn : Str} {st : Stmt} {N : List Str} (D : EqAt K C nm qn st) (S : FnScope N ps (defScope st))
    (hb : ∀ (kV doc pm : Value) (an : Option Addr) (cdv ct : Value) (us : List Value), us.length = ps.length → bindArgs (PySem.W.fnOf nm qn (defArgs st) (defBody st) (defScope st) .none kV doc pm an cdv ct) ⟨us, []⟩ = pure (ps.zip us))
    (len : ∀ vs H Q E, sp vs H Q E → vs.length = ps.length)
    (hbody : ∀ (f : Addr) (cdv : Value) (A : Around) (outer : List Env) (s : Shared) (H : Hp) (vs : List V) (Q : VK) (E : XK), Room k (A.deeper (envOfC qn (defScope st) s.heap.objs.size f cdv)) → sp vs H Q E →
      ∃ t, PSs (cxOf CX0 P w K mg base N qn (defScope st) f cdv A outer s H E).nox (defBody st) t ∧ t { nx := fun _ H' => Q .non H', rt := Q } (start N vs) H) : HasEq P w K mg base (k + 1) C ps sp := by
  obtain ⟨f, fd, F, h1, h2⟩ := D
  exact ⟨f, fd, F.ok S len (fun cdv A outer s H vs Q E hr hs => hbody f cdv A outer s H vs Q E hr hs), h1, h2, F.binds hb⟩
/-- x == y by the own == of x's class: what it promises -/
def rEqO (C : Addr) (sp : Sp) : R2 := fun x y H Q => ∃ a b dx dy fs gs, x = .ref a ∧ y = .ref b ∧ H a = some (.ins C dx fs) ∧ H b = some (.ins C dy gs) ∧ sp [.ref a, .ref b] H (fun v H' => (∃ c, v = .bl c) ∧ Q v H') (fun _ _ _ => False)
theorem op_eqO {X : Cx} {k j : Nat} {C : Addr} {ps : List Str} {sp : Sp} (h : HasEq X.prog X.w X.K X.mg X.base k C ps sp) (hr : Room j X.A) (hk : k ≤ j := by first | decide | omega) : OpR X (compareOp .Eq) (rEqO C sp) := by
  intro pins s σ H x y u v Q I rx ry hq
  obtain ⟨f, fd, F, hs, hf, hb⟩ := h
  obtain ⟨a, b, dx, dy, fs, gs, rfl, rfl, ha, hb', hsp⟩ := hq
  cases rx
  cases ry
  show wpAny (model X.prog X.w) X.A (richCompare .Eq (.ref a) (.ref b)) (EP X pins σ Q) X.xe s
  obtain ⟨mA, J, _⟩ := ins_get I.hok ha
  obtain ⟨mB, J', _⟩ := ins_get I.hok hb'
  obtain ⟨od, J, _⟩ := J.look
  obtain ⟨od', J', _⟩ := J'.look
  obtain ⟨m, hF⟩ := I.fr
  have hu0 : X.A.units < cLine := by have := hr.un; omega
  refine PySem.W.cmp_K (op := .Eq) (tb := .ref C) hu0 hF I.ok.mod.kin J J'.type (by simp [PySem.W.notFirst]) hs hf ?_
  have hl := F.len _ _ _ _ hsp
  have r2 : Vals [V.ref a, V.ref b] [Value.ref a, Value.ref b] := .cons rfl (.cons rfl .nil)
  refine wpAny_call (codeAny_mono (F.run X.A X.stack s H ⟨[.ref a, .ref b], []⟩ [.ref a, .ref b] [.ref a, .ref b] _ _ (hr.mono hk) I.env0 (by
    have := hb s [.ref a, .ref b] I.kIn (by simpa using hl)
    simpa using this) r2 hsp) fun r s' hq => ?_)
  cases r with
  | error e => exact False.elim hq
  | ok fl =>
    cases fl with
    | ret w =>
      obtain ⟨z, H', I', rz, ⟨c, ez⟩, q⟩ := I.after hq
      subst ez
      cases rz
      exact ⟨.bl c, H', I', rfl, q⟩
    | next => exact False.elim hq
    | brk => exact False.elim hq
    | cont => exact False.elim hq
end G3

set_option Elab.async false
set_option linter.all false
set_option maxRecDepth 100000
set_option maxHeartbeats 4000000
/-! Defs that are called where no repr is under way; repr of data. -/
namespace L2
open PySem PySem.Spec PyProof.Rows
/-- a def's promise, where no repr is under way -/
structure FnG (P : Program) (w : World) (K : PySem.W.Frag) (mg : Str → Option Value) (base : Heap) (CX : CXT) (k : Nat) (f : Addr) (fd : FuncData) (ps : List Str) (sp : Sp) : Prop where
  len : ∀ vs H Q E, sp vs H Q E → vs.length = ps.length
  run : ∀ (A : Around) (outer : List Env) (s : Shared) (H : Hp) (args : Args) (us : List Value) (vs : List V) (Q : VK) (E : XK), A.guards = some [] → Room k A → Env0 P w K mg base A outer s H → BindsTo s fd args (ps.zip us) → Vals vs us → sp vs H Q E →
    codeAny (model P w) A (.call (.ref f) args) (CR CX outer P w H s Q E) s
theorem fnG_of {CX : CXT} {P : Program} {w : World} {K : PySem.W.Frag} {mg : Str → Option Value} {base : Heap} {k : Nat} {f : Addr} {name qual : Str} {params : Arguments} {body : List Stmt} {scope : Scope} {dV kV doc pm cdv ct oc : Value} {an od : Option Addr}
    {osl : Array (Option Value)} {N ps : List Str} {sp : Sp} (lk : K.lookup f = some ⟨oc, od, .func (PySem.W.fnOf name qual params body scope dV kV doc pm an cdv ct), osl⟩) (hcd : PySem.W.codeIn K cdv qual = true) (S : FnScope N ps scope)
    (len : ∀ vs H Q E, sp vs H Q E → vs.length = ps.length)
    (hbody : ∀ (A : Around) (outer : List Env) (s : Shared) (H : Hp) (vs : List V) (Q : VK) (E : XK), (A.deeper (envOfC qual scope s.heap.objs.size f cdv)).guards = some [] → Room k (A.deeper (envOfC qual scope s.heap.objs.size f cdv)) → sp vs H Q E →
      ∃ t, PSs (cxOf CX P w K mg base N qual scope f cdv A outer s H E) body t ∧ t { nx := fun _ H' => Q .non H', rt := Q } (start N vs) H) :
    FnG P w K mg base CX (k + 1) f (PySem.W.fnOf name qual params body scope dV kV doc pm an cdv ct) ps sp := by
  refine ⟨len, fun A outer s H args us vs Q E hgd hr e0 hb r hsp => ?_⟩
  have kx : K.In s.heap := e0.mod.kin.keeps fun b o e => (e0.bs b o e).1
  have nl : s.heap.NoLimit := e0.mod.nolimit.keeps fun b o e => (e0.bs b o e).1
  refine codeAny_call_function hr.depth (kx _ _ lk) rfl S.co S.gen rfl (PySem.W.codeRec_of kx hcd) (hb _ _ _ _ ?_)
  refine wpAny_newFunctionEnv_cells S.kind (fun ⟨n, v⟩ hy => ?_) fun env he s1 x => ?_
  · exact (S.par n (List.of_mem_zip hy).1).imp id fun q => ⟨q, PySem.W.cellsFrom_some _ _ _ (.inl q)⟩
  subst he
  refine ⟨nl.keeps x.toInCall.keep, codeAny_func ?_⟩
  obtain ⟨t, ht, hq⟩ := hbody A outer s H vs Q E hgd (hr.deeper _) hsp
  refine wpAny_mono (ht.run [] s1 (start N vs) H _ (inv_start S hr.hd e0 (len _ _ _ _ hsp) r x) hq) (fun fl s' hs => ?_) fun e s' hs => hs
  cases fl with
  | ret u =>
    obtain ⟨v, σ', H', J, rv, q⟩ := hs
    exact ⟨v, H', J.os, J.bare, J.base, J.hok, rv, q⟩
  | next =>
    obtain ⟨σ', H', J, q⟩ := hs
    exact ⟨V.non, H', J.os, J.bare, J.base, J.hok, rfl, q⟩
  | brk => exact hs.elim fun _ h => h.elim fun _ h => h.2.elim
  | cont => exact hs.elim fun _ h => h.elim fun _ h => h.2.elim
section
variable {X : Cx} {CX : CXT} {k : Nat} {f : Addr} {fd : FuncData} {ps : List Str} {sp : Sp} {E : XK} {x : Str} {p pos : Pos} {e : Expr} {es : List Expr} {t : TA}
theorem pe_callG (hgd : X.A.guards = some []) (F : FnG X.prog X.w X.K X.mg X.base CX k f fd ps sp) (hr : Room k X.A) (hg : Gl X x) (hm : X.mg x = some (.ref f)) (hk : PySem.W.keepIn X.K (.ref f) = true) (hb : Binds X.K fd ps []) (hx : Passes CX X E)
    (ha : PA X (e :: es) t) (hdb : (x == ("__debug__" : Str)) = false := by decide) (he : starEach (e :: es) X.env = (false, eval e X.env) :: starEach es X.env := by rfl) (hpl : (backTo pos (starEach es X.env)).any (·.1) = false := by rfl) :
    PE X (.Call (.Name x p) (e :: es) [] pos) (tCall sp [] E t) := by
  refine ⟨fun pins s σ H Q I h => ?_⟩
  refine wpAny_Call_Name_kw (ld_glob I hg hm ?_ hdb)
  refine PySem.W.callWith_K (h₀ := X.base) I.ok.mod.kin hk (thn (ha.run pos pins s σ H _ I h) fun us s1 ⟨vs, H1, I1, r, q⟩ => ⟨I1.kIn, ?_⟩) he hpl
  have r2 : Vals (vs ++ []) (us ++ []) := r.append .nil
  have hl : (us ++ []).length = ps.length := r2.length.symm.trans (F.len _ _ _ _ q)
  refine wpAny_call (codeAny_mono (F.run X.A X.stack s1 H1 ⟨us, []⟩ (us ++ []) (vs ++ []) Q E hgd hr I1.env0 (hb s1 us I1.kIn hl) r2 q) fun r s' hq => ?_)
  cases r with
  | error e => exact hx pins σ H1 s1 e s' I1 hq
  | ok fl =>
    cases fl with
    | ret u => exact I1.after hq
    | next => exact hq.elim
    | brk => exact hq.elim
    | cont => exact hq.elim
/-- repr(d), d lists and tuples of any depth of numbers of no great size -/
def rRepr (K : PySem.W.Frag) : List V → Hp → VK → Prop := fun xs H Q => ∃ (a : Addr) (d : PyData), xs = [.ref a] ∧ Dp K H (.ref a) d ∧ d.showable = true ∧ d.hasDict = false ∧ d.depth ≤ 60 ∧ d.shown.length ≤ sizeLine ∧ Q (.str d.shown) H
theorem call_reprD (hgd : X.A.guards = some []) (hu : X.A.units + 64 < cLine) : CallR X (.builtin "repr") (rRepr X.K) := by
  intro pins s σ H xs us Q I r h
  obtain ⟨a, d, rfl, hd, h1, h2, h3, h4, q⟩ := h
  obtain rfl := Vals.ref1 r
  obtain ⟨as, rd⟩ := Dp.reads I d (.ref a) (.ref a) hd rfl
  exact repr_of_reads' rd h1 (PyData.noDict_hsm h2) hgd (by omega) (fun _ _ e => e) (fun h' u tk hk => ⟨.str _, H, I.kept (t' := tk) hk, ⟨_, rfl⟩, q⟩) h4
end
end L2
namespace G3
open PySem PySem.Spec PyProof.Rows L2
def HasG (P : Program) (w : World) (K : PySem.W.Frag) (mg : Str → Option Value) (base : Heap) (CX : CXT) (k : Nat) (x : Str) (ps : List Str) (sp : Sp) : Prop :=
  ∃ f fd, FnG P w K mg base CX k f fd ps sp ∧ mg x = some (.ref f) ∧ PySem.W.keepIn K (.ref f) = true ∧ Binds K fd ps []
theorem hasG_of {P : Program} {w : World} {K : PySem.W.Frag} {mg : Str → Option Value} {base : Heap} {k : Nat} {x nm : Str} {ps : List Str} {sp : Sp} {st : Stmt} {N : List Str} (D : DefAt K mg x nm st) (S : FnScope N ps (defScope st))
    (hb : ∀ (kV doc pm : Value) (an : Option Addr) (cdv ct : Value) (us : List Value), us.length = ps.length → bindArgs (PySem.W.fnOf nm nm (defArgs st) (defBody st) (defScope st) .none kV doc pm an cdv ct) ⟨us, []⟩ = pure (ps.zip us))
    (len : ∀ vs H Q E, sp vs H Q E → vs.length = ps.length)
    (hbody : ∀ (f : Addr) (cdv : Value) (A : Around) (outer : List Env) (s : Shared) (H : Hp) (vs : List V) (Q : VK) (E : XK), (A.deeper (envOfC nm (defScope st) s.heap.objs.size f cdv)).guards = some [] → Room k (A.deeper (envOfC nm (defScope st) s.heap.objs.size f cdv)) → sp vs H Q E →
      ∃ t, PSs (cxOf CX0 P w K mg base N nm (defScope st) f cdv A outer s H E).nox (defBody st) t ∧ t { nx := fun _ H' => Q .non H', rt := Q } (start N vs) H) : HasG P w K mg base CX0 (k + 1) x ps sp := by
  obtain ⟨f, fd, F, m⟩ := D
  obtain ⟨oc, od, kV, doc, pm, an, cdv, ct, osl, e, lk, hcd⟩ := F.ex
  have b := F.binds hb
  have kp := F.kp
  subst e
  refine ⟨f, _, fnG_of lk hcd S len fun A outer s H vs Q E hgd hr hs => ?_, m, kp, b⟩
  obtain ⟨t, h, q⟩ := hbody f cdv A outer s H vs Q E hgd hr hs
  exact ⟨t, h.nox, q⟩
theorem pe_hG {X : Cx} {CX : CXT} {k j : Nat} {x : Str} {ps : List Str} {sp : Sp} {E : XK} {p pos : Pos} {e : Expr} {es : List Expr} {t : TA} (hgd : X.A.guards = some []) (h : HasG X.prog X.w X.K X.mg X.base CX k x ps sp) (hr : Room j X.A) (hx : Passes CX X E)
    (ha : PA X (e :: es) t) (hk : k ≤ j := by first | decide | omega) (hg : Gl X x := by rfl) (hdb : (x == ("__debug__" : Str)) = false := by decide) (he : starEach (e :: es) X.env = (false, eval e X.env) :: starEach es X.env := by rfl) (hpl : (backTo pos (starEach es X.env)).any (·.1) = false := by rfl) :
    PE X (.Call (.Name x p) (e :: es) [] pos) (tCall sp [] E t) := by
  obtain ⟨f, fd, F, m, kp, b⟩ := h
  exact pe_callG hgd F (hr.mono hk) hg m kp b hx ha hdb he hpl
/-! ### how long a text of numbers is -/
theorem list_text (ts : List Str) : (listText ts).length ≤ piled ts + 2 := by
  have e2 : (("]" : String) : Str).length = 1 := rfl
  have e1 : (("[" : String) : Str).length = 1 := rfl
  unfold listText
  rw [strLen_append, e2]
  cases ts with
  | nil => show (("[" : String) : Str).length + 1 ≤ _; rw [e1]; omega
  | cons t ts =>
    show (textFrom 1 ((("[" : String) : Str) ++ (if 0 > 0 then ", " else "" : String) ++ t) ts).length + 1 ≤ _
    rw [textFrom_length_pos _ _ _ (by decide), strLen_append, strLen_append, e1, piled_cons]
    have : ((if 0 > 0 then ", " else "" : String) : Str).length = 0 := rfl
    rw [this]
    omega
end G3

set_option Elab.async false
set_option linter.all false
set_option maxRecDepth 100000
set_option maxHeartbeats 4000000
/-! The head's end for a promise that holds where no repr is under way; facts of own errors with super().__init__. -/
namespace L2
open PySem PySem.Spec PyProof.Rows
theorem law_callG {P : Program} {w : World} {K : PySem.W.Frag} {mg mb : Str → Option Value} {CX : CXT} {k : Nat} {fa a : Addr} {x : Str} {sp : Sp} {s₁ : Shared} {vs : List Value} {ns : List Int}
    (KX : K.In s₁.heap) (hns : s₁.heap.Ns mainGlobals mg) (hb : s₁.heap.Ns builtinsNs mb) (hbb : ∀ x : Str, x ≠ "__name__" → mb x = bootBuiltins x) (hlim : s₁.heap.NoLimit) (hg : s₁.gens = #[])
    (ha : s₁.heap.get? a = some { cls := .type "list", data := .seq vs.toArray }) (hi : IntsAre vs ns) (hl : ns.length ≤ sizeLine) (hr : Room k callerA)
    (F : ∀ base : Heap, K.In base → base.Ns mainGlobals mg → ∃ fd, FnG P w K mg base CX k fa fd [x] sp ∧ Binds K fd [x] [])
    (hsp : ∀ H : Hp, Only H → SqL K H a (ns.map V.int) → sp [.ref a] H (fun v _ => v = .bl true) fun _ _ _ => False)
    (hCX : ∀ H e s', CX [] H s₁ (fun _ _ _ => False) e s' → False) :
    codeAny (model P w) callerA (.call (.ref fa) ⟨[.ref a], []⟩) (fun r s' => r = .ok (.ret (.bool true)) ∧ OldK s₁.heap s'.heap ∧ s'.os = s₁.os ∧ AllBare s'.gens) s₁ := by
  have rv := vals_ints hi
  -- for any H in which only the script may stand
  have main : ∀ H : Hp, Only H → SqL K H a (ns.map V.int) → HOk P w H s₁.heap → (∀ b, H b ≠ none → b = a) → (H a ≠ none → K.lookup a = none) →
      codeAny (model P w) callerA (.call (.ref fa) ⟨[.ref a], []⟩) (fun r s' => r = .ok (.ret (.bool true)) ∧ OldK s₁.heap s'.heap ∧ s'.os = s₁.os ∧ AllBare s'.gens) s₁ := by
    intro H hO hS hok hA hK
    have notIt : ∀ {b : Addr} {o : Obj} {es : Array DictEntry} {ep : Nat}, s₁.heap.get? b = some o → o.data = .dict es ep → H b = none := fun {b o es ep} e d => by
      by_cases z : H b = none
      · exact z
      · have e' := hA b z
        rw [e', ha] at e
        cases e
        cases (show Data.seq vs.toArray _ = Data.dict es ep from d)
    have nsK : ∀ {b : Addr} {m : Str → Option Value}, s₁.heap.Ns b m → (hidT s₁.heap H).Ns b m := fun {b m} ⟨o, es, ep, e, d, r⟩ => ⟨o, es, ep, hidT_get e (notIt e d), d, r⟩
    have hKb : K.In (hidT s₁.heap H) := fun b o e => hidT_get (KX b o e) (by
      by_cases z : H b = none
      · exact z
      · have e' := hA b z
        rw [e'] at z e
        rw [hK z] at e
        cases e)
    have hM : Mod K mg (hidT s₁.heap H) := ⟨hKb, nsK hns, ⟨mb, nsK hb, hbb⟩, let ⟨mc, h1, h2⟩ := hlim; ⟨mc, nsK h1, h2⟩⟩
    have e0 : Env0 P w K mg (hidT s₁.heap H) callerA [] s₁ H := ⟨rfl, hM, fun b o e => of_hidT e, Nat.le_of_eq (hidT_size _ _), trivial, fun b hb => absurd (show b ∈ ([] : List Addr) from hb) (by simp), hok, .of_eq hg⟩
    obtain ⟨fd, hF, hB⟩ := F _ hKb (nsK hns)
    refine codeAny_mono (hF.run callerA [] s₁ H ⟨[.ref a], []⟩ [.ref a] [.ref a] _ _ rfl hr e0 (hB s₁ [.ref a] KX rfl) (.cons rfl .nil) (hsp H hO hS)) fun r s' h => ?_
    cases r with
    | error e => exact (hCX H e s' h).elim
    | ok fl =>
      cases fl with
      | next => exact h.elim
      | brk => exact h.elim
      | cont => exact h.elim
      | ret u =>
        obtain ⟨v, H', os, bare, un, hok', r', q⟩ := h
        obtain rfl : v = .bl true := q
        obtain rfl : u = Value.bool true := r'
        refine ⟨rfl, OldK.of_keep fun b o e => ?_, os, bare⟩
        rcases hO b with q | ⟨ob, xs, z⟩
        · exact un.keep b o e q (by intro z; exact absurd (show b ∈ ([] : List Addr) from z) (by simp)) (by simp)
        · obtain ⟨e1, _⟩ := hok b _ z
          obtain ⟨e2, _⟩ := hok' b _ (un.frzs b ob _ z)
          rw [e] at e1
          cases e1
          exact e2
  cases hk : K.lookup a with
  | some o =>
    have e := KX a o hk
    rw [ha] at e
    cases e
    exact main (fun _ => none) (fun _ => .inl rfl) (.inr ⟨_, vs.toArray, _, hk, rfl, rfl, rfl, by rw [List.size_toArray, hi.length]; exact hl, by simpa using rv⟩) (fun b u z => by cases (show (none : Option HO) = some u from z)) (fun b z => absurd rfl z) fun z => absurd rfl z
  | none =>
    refine main (fun b => if b = a then some (.frz { cls := .type "list", data := .seq vs.toArray } (.lst (ns.map V.int))) else none) (fun b => ?_) (.inl (.inr ⟨{ cls := .type "list", data := .seq vs.toArray }, if_pos rfl⟩)) (fun b u z => ?_) (fun b z => ?_) fun _ => hk
    · by_cases hb : b = a
      · exact .inr ⟨_, _, if_pos hb⟩
      · exact .inl (if_neg hb)
    · by_cases hb : b = a
      · cases (if_pos hb).symm.trans z
        subst hb
        exact ⟨ha, by rw [List.length_map]; exact hl, vs, _, rv, ha⟩
      · cases (if_neg hb).symm.trans z
    · by_cases hb : b = a
      · exact hb
      · exact absurd (if_neg hb) z
theorem walk_ofG {l : PySem.W.OpenLaw} {n k : Nat} {q : Program} {loose : List Str} {XP : (Str → Option Value) → Heap → Prop} {YP : World → Heap → Prop} {d : DefRec} {CX : CXT} {x : Str}
    (hn : l.most = some n) (hn2 : n ≤ sizeLine) (hdf : d.params.defaults = []) (hr : Room k callerA)
    (F : ∀ (w : World) (mg : Str → Option Value) (fa : Addr) (h : Heap), YP w h → h.Ns mainGlobals mg → mg d.name = some (.ref fa) →
      ∃ (K : PySem.W.Frag) (sp : Sp), K.In h ∧
        (∀ (H : Hp) (a : Addr) (ns : List Int), ns.length ≤ n → Only H → SqL K H a (ns.map V.int) → sp [.ref a] H (fun v _ => v = .bl true) fun _ _ _ => False) ∧
        ∀ base : Heap, K.In base → base.Ns mainGlobals mg → ∃ fd, FnG l.prog w K mg base CX k fa fd [x] sp ∧ Binds K fd [x] [])
    (hCX : ∀ (H : Hp) (s : Shared) (e : Value) (s' : Shared), CX [] H s (fun _ _ _ => False) e s' → False) :
    PySem.W.WalkO q loose XP YP l.row.toRowW d [] (fun f vs => PySem.call f vs) := by
  refine Att.attach_call hn hdf fun w s₀ s₁ mg mb fa o pm cd doc a vs ns G Y ho hd hcd hmg hobj hints hlen hg => ?_
  obtain ⟨K, sp, KX, hsp, hF⟩ := F w mg fa _ Y G.T.g hmg
  exact law_callG KX G.T.g G.T.b G.T.builtins G.T.nolimit hg hobj hints (Nat.le_trans hlen hn2) hr hF (fun H hO hS => hsp H a ns hlen hO hS) fun H e s' => hCX H s₁ e s'
end L2
namespace SupX
open PySem PySem.W PySem.Calls PyProof.Rows PySem.HandSPX
/-! ### such a class, asked of the written part -/
def clsB (K : Frag) (C : Addr) : Bool := match K.lookup C with
  | some ⟨.type "type", _, .cls ⟨_, _, .ref C' :: bm, _, _, true, _, _, _, _, false⟩, sl⟩ => (match sl.toList with
    | [_, _, _, _, some (.builtin n), _] => decide (C' = C) && (decide (n = "ValueError.__new__") && refsVE bm)
    | _ => false)
  | _ => false
theorem clsB_ok {K : Frag} {C : Addr} (h : clsB K C = true) : ∃ nm q N bs bm sn sub ab col dd k0 k1 k2 k3 k5, K.lookup C = some (excClassObj nm q C N bs bm true sn sub ab col dd k0 k1 k2 k3 k5 "ValueError.__new__") ∧ refsVE bm = true := by
  unfold clsB at h
  split at h
  · rename_i dd nm bs C' bm ns qn sn sub ab col sl ho
    split at h
    · rename_i k0 k1 k2 k3 n k5 hs
      simp only [Bool.and_eq_true, decide_eq_true_eq] at h
      obtain ⟨rfl, rfl, h3⟩ := h
      have e : sl = #[k0, k1, k2, k3, some (.builtin "ValueError.__new__"), k5] := by
        obtain ⟨l⟩ := sl
        simp only at hs
        rw [hs]
      subst e
      exact ⟨_, _, _, _, bm, _, _, _, _, _, k0, k1, k2, k3, k5, ho, h3⟩
    · cases h
  · cases h
/-- the closure and the code object of its __init__ -/
def fnB (K : Frag) (file : Str) (qual : Str) (C fI : Addr) : Bool := match K.lookup fI with
  | some ⟨_, _, .func fd, _⟩ => (match fd.closure, fd.code, fd.defaults, fd.kwdefaults with
    | [(nm, cc)], .ref cda, .none, .none => decide (nm = "__class__") && (codeIn K (.ref cda) qual && ((match K.lookup cc with
        | some ⟨_, _, .cell (some (.ref C')), _⟩ => decide (C' = C)
        | _ => false) && (match K.lookup cda with
        | some ⟨_, _, .fields vs, _⟩ => (match (vs[2]? : Option Value) with
          | some (Value.str fl _) => file == fl
          | _ => false)
        | _ => false)))
    | _, _, _, _ => false)
  | _ => false
abbrev FnC : Type := Option (Str × Str × Arguments × FuncBody × Scope × Addr × Addr)
def fnC (K : Frag) (fI : Addr) : FnC := match K.lookup fI with
  | some ⟨_, _, .func fd, _⟩ => some (fd.name, fd.qualname, fd.params, fd.body, fd.scope, fd.globals, fd.builtins)
  | _ => none
theorem fn_ok {K : Frag} {file qual : Str} {C fI : Addr} {ps : Arguments} {body : List Stmt} {sc : Scope} (e : fnC K fI = some (("__init__" : Str), qual, ps, FuncBody.stmts body, sc, mainGlobals, builtinsNs)) (h : fnB K file qual C fI = true) :
    ∃ (oc : Value) (od : Option Addr) (doc pm : Value) (an : Option Addr) (ct : Value) (osl : Array (Option Value)) (cda cc : Addr),
      K.lookup fI = some ⟨oc, od, .func (ksFn "__init__" qual ps body sc .none .none doc pm an (.ref cda) ct cc), osl⟩ ∧ codeIn K (.ref cda) qual = true ∧
      (∃ (cl : Value) (cld : Option Addr) (csl : Array (Option Value)), K.lookup cc = some ⟨cl, cld, .cell (some (.ref C)), csl⟩) ∧
      ∃ (ccl : Value) (cdd : Option Addr) (ccs : Array (Option Value)) (vs : Array Value) (fl : Str) (tf : Tok), K.lookup cda = some ⟨ccl, cdd, .fields vs, ccs⟩ ∧ vs[2]? = some (.str fl tf) ∧ (file == fl) = true := by
  unfold fnB at h
  unfold fnC at e
  cases q : K.lookup fI with
  | none => rw [q] at h; cases h
  | some o =>
    obtain ⟨oc, od, dt, osl⟩ := o
    rw [q] at h e
    cases dt with
    | func fd =>
      obtain ⟨n1, n2, n3, n4, n5, n6, n7, n8, n9, n10, n11, n12, n13, n14, n15⟩ := fd
      have e2 : (some (n1, n2, n3, n4, n5, n6, n15) : FnC) = some (("__init__" : Str), qual, ps, FuncBody.stmts body, sc, mainGlobals, builtinsNs) := e
      simp only [Option.some.injEq, Prod.mk.injEq] at e2
      obtain ⟨h1, h2, h3, h4, h5, h6, h8⟩ := e2
      subst h1 h2 h3 h4 h5 h6 h8
      dsimp only at h
      split at h
      · rename_i nm cc cda
        simp only [Bool.and_eq_true, decide_eq_true_eq] at h
        obtain ⟨rfl, hc, hcc, hcd⟩ := h
        refine ⟨oc, od, n10, n11, n12, n14, osl, cda, cc, rfl, hc, ?_, ?_⟩
        · split at hcc
          · rename_i c1 c2 C' c3 ho
            obtain rfl : C' = C := of_decide_eq_true hcc
            exact ⟨_, _, _, ho⟩
          · cases hcc
        · split at hcd
          · rename_i c1 c2 vs c3 ho
            split at hcd
            · rename_i fl tf hv
              exact ⟨_, _, _, vs, fl, tf, ho, hv, hcd⟩
            · cases hcd
          · cases hcd
      · cases h
    | _ => cases h
def eqO (a b : Option (Option Value)) : Bool := decide (a = b)
def eqB (a : Option Bool) (b : Bool) : Bool := decide (a = some b)
/-- the class x with its __init__ -/
def supB (K : Frag) (file x qual : Str) : Bool :=
  clsB K (He.ga K x) && (eqO (findIn K (.ref (He.ga K x)) "__setattr__") (some (some (.builtin "object.__setattr__"))) && (eqO (findIn K (.ref (He.ga K x)) "__getattribute__") (some (some (.builtin "BaseException.__getattribute__"))) &&
  (eqO (findIn K (.ref (He.ga K x)) "__getattr__") (some none) && (eqO (findIn K (.ref (He.ga K x)) "number") (some none) && (eqO (findIn K (.ref (He.ga K x)) "__init__") (some (some (.ref (He.ma K (He.ga K x) "__init__")))) &&
  (decide (typeIn K (.ref (He.ma K (He.ga K x) "__init__")) = some (.type "function")) && (keepIn K (.ref (He.ga K x)) && (eqB (subIn K (.ref (He.ga K x)) (.type "BaseException")) true && (eqB (subIn K (.ref (He.ga K x)) (.type "ValueError")) true &&
  (decide (typeIn K (.ref (He.ga K x)) = some (.type "type")) && (hasDictIn K (He.ga K x) && (eqO (ks_superIn K (He.ga K x) (He.ga K x) "__init__") (some (some (.builtin "ValueError.__init__"))) && (eqB (mroIn K (He.ga K x) (.ref (He.ga K x))) true &&
  (eqO (nsIn K cStatics "thirdparty.any") (some none) && fnB K file qual (He.ga K x) (He.ma K (He.ga K x) "__init__")))))))))))))))
theorem sup_ok {prog : Program} {K : Frag} {mg : Str → Option Value} {x qual : Str} {p1 p2 q1 q2 q3 q4 q5 q6 q7 q8 q9 q10 : Pos} (gC : mg x = some (.ref (He.ga K x))) (free : mg "super" = none) (htop : (prog.main.scope.names.lookup (Str.ofString "super")).isSome = false)
    (e : fnC K (He.ma K (He.ga K x) "__init__") = some ((("__init__" : Str)), qual, iA p1 p2, FuncBody.stmts (iB q1 q2 q3 q4 q5 q6 q7 q8 q9 q10), iS, mainGlobals, builtinsNs)) (hq : (q3.endLine == q5.line) = true) (h : supB K (prog.main.file : Str) x qual = true) :
    SupTxt prog K mg x (He.ga K x) (He.ma K (He.ga K x) "__init__") := by
  unfold supB at h
  simp only [Bool.and_eq_true] at h
  obtain ⟨h1, h2, h3, h4, h5, h6, h7, h8, h9, h10, h11, h12, h13, h14, h15, h16⟩ := h
  obtain ⟨oc, od, doc, pm, an, ct, osl, cda, cc, k1, k2, k3, k4⟩ := fn_ok e h16
  exact ⟨gC, clsB_ok h1, of_decide_eq_true h2, of_decide_eq_true h3, of_decide_eq_true h4, of_decide_eq_true h5, of_decide_eq_true h6, of_decide_eq_true h7, h8, of_decide_eq_true h9, of_decide_eq_true h10, of_decide_eq_true h11, h12, of_decide_eq_true h13, of_decide_eq_true h14, of_decide_eq_true h15, free, htop,
    oc, od, doc, pm, an, ct, osl, p1, p2, q1, q2, q3, q4, q5, q6, q7, q8, q9, q10, qual, cda, cc, k1, k2, hq, k3, k4⟩
/-! ### a Hook that asks of these too -/
abbrev AlX : Type := Bool × List He.FnW × List FnC
def obsX (fa : List He.Fa) (fn : List He.DefD) (sup : List Str) (mine : Frag → Bool) (K : Frag) : AlX := ((He.obsD fa fn K).1 && mine K, (He.obsD fa fn K).2, sup.map fun x => fnC K (He.ma K (He.ga K x) "__init__"))
def valX (fn : List He.DefD) (sv : List FnC) : AlX := (true, (He.valD fn).2, sv)
def obsXG (n : Nat) (fa : List He.Fa) (fn : List He.DefD) (sup : List Str) (mine : Frag → Bool) (g : Addr → Option Obj) : AlX := obsX fa fn sup mine (He.frG g (He.asD g n ++ [cStatics]))
def hookX (n : Nat) (fa : List He.Fa) (fn : List He.DefD) (sup : List Str) (sv : List FnC) (mine : Frag → Bool) : PySem.W.Hook where
  α := AlX
  obs := fun s => obsXG n fa fn sup mine s.heap.get?
  val := fun _ => valX fn sv
  says := fun _ h => ∃ K : Frag, K.In h ∧ obsX fa fn sup mine K = valX fn sv
  of := fun _ _ e => ⟨_, He.frG_in, e⟩
  keeps := fun _ _ _ ⟨K, hK, c⟩ k => ⟨K, PySem.W.Frag.In.keeps hK k, c⟩
theorem obsXG_eq {n : Nat} {fa : List He.Fa} {fn : List He.DefD} {sup : List Str} {sv : List FnC} {mine : Frag → Bool} {g : Addr → Option Obj} {s : Shared} (h : ∀ a, g a = s.heap.get? a) : obsXG n fa fn sup mine g = (hookX n fa fn sup sv mine).obs s := by
  have e : g = s.heap.get? := funext h
  rw [e] <;> rfl
theorem saysX {fa : List He.Fa} {fn : List He.DefD} {sup : List Str} {sv : List FnC} {mine : Frag → Bool} {K : Frag} (h : obsX fa fn sup mine K = valX fn sv) : He.SaysD fa fn K ∧ mine K = true ∧ sup.map (fun x => fnC K (He.ma K (He.ga K x) "__init__")) = sv := by
  have h1 : ((He.obsD fa fn K).1 && mine K) = true := congrArg (fun z : AlX => z.1) h
  have h2 : (He.obsD fa fn K).2 = (He.valD fn).2 := congrArg (fun z : AlX => z.2.1) h
  have h3 : sup.map (fun x => fnC K (He.ma K (He.ga K x) "__init__")) = sv := congrArg (fun z : AlX => z.2.2) h
  rw [Bool.and_eq_true] at h1
  exact ⟨Prod.ext h1.1 h2, h1.2, h3⟩
end SupX

set_option Elab.async false
set_option linter.all false
set_option maxRecDepth 100000
set_option maxHeartbeats 4000000
namespace SupRN
open PySem PySem.W PySem.Calls PyProof.Rows PySem.HandSPX
def iA (p1 p2 p3 : Pos) : Arguments :=
  { posonlyargs := [], args := [⟨"self", none, p1⟩, ⟨"reason", none, p2⟩, ⟨"number", none, p3⟩], vararg := none, kwonlyargs := [], kw_defaults := [], kwarg := none, defaults := [] }
def iB (q1 q2 q3 q4 qa q5 q6 q7 q8 q9 q10 qb qc qd qe : Pos) : List Stmt :=
  [.Expr (.Call (.Attribute (.Call (.Name "super" q1) [] [] q2) "__init__" q3) [.Name "reason" q4, .Name "number" qa] [] q5) q6, .Assign [.Attribute (.Name "self" q7) "reason" q8] (.Name "reason" q9) q10, .Assign [.Attribute (.Name "self" qb) "number" qc] (.Name "number" qd) qe]
def iS : Scope :=
  { kind := .function, names := [(Str.ofString "self", .local), (Str.ofString "reason", .local), (Str.ofString "number", .local), (Str.ofString "__class__", .free), (Str.ofString "super", .globalImplicit)], isGenerator := false, isCoroutine := false, more := [] }
structure SupTxt (prog : Program) (K : Frag) (mg : Str → Option Value) (x : Str) (C fI : Addr) : Prop where
  gC : mg x = some (.ref C)
  cls : ∃ nm q N bs bm sn sub ab col dd k0 k1 k2 k3 k5, K.lookup C = some (excClassObj nm q C N bs bm true sn sub ab col dd k0 k1 k2 k3 k5 "ValueError.__new__") ∧ refsVE bm = true
  sa : findIn K (.ref C) "__setattr__" = some (some (.builtin "object.__setattr__"))
  ga : findIn K (.ref C) "__getattribute__" = some (some (.builtin "BaseException.__getattribute__"))
  gg : findIn K (.ref C) "__getattr__" = some none
  no1 : findIn K (.ref C) "reason" = some none
  no2 : findIn K (.ref C) "number" = some none
  iC : findIn K (.ref C) "__init__" = some (some (.ref fI))
  tC : typeIn K (.ref fI) = some (.type "function")
  kC : keepIn K (.ref C) = true
  exC : subIn K (.ref C) (.type "BaseException") = some true
  vE : subIn K (.ref C) (.type "ValueError") = some true
  tyC : typeIn K (.ref C) = some (.type "type")
  hdC : hasDictIn K C = true
  sup : ks_superIn K C C "__init__" = some (some (.builtin "ValueError.__init__"))
  self_ : mroIn K C (.ref C) = some true
  stat : nsIn K cStatics "thirdparty.any" = some none
  free : mg "super" = none
  htop : (prog.main.scope.names.lookup (Str.ofString "super")).isSome = false
  fn : ∃ (oc : Value) (od : Option Addr) (doc pm : Value) (an : Option Addr) (ct : Value) (osl : Array (Option Value)) (p1 p2 p3 q1 q2 q3 q4 qa q5 q6 q7 q8 q9 q10 qb qc qd qe : Pos) (qual : Str) (cda cc : Addr),
    K.lookup fI = some ⟨oc, od, .func (ksFn "__init__" qual (iA p1 p2 p3) (iB q1 q2 q3 q4 qa q5 q6 q7 q8 q9 q10 qb qc qd qe) iS .none .none doc pm an (.ref cda) ct cc), osl⟩ ∧ codeIn K (.ref cda) qual = true ∧ (q3.endLine == q5.line) = true ∧
    (∃ (cl : Value) (cld : Option Addr) (csl : Array (Option Value)), K.lookup cc = some ⟨cl, cld, .cell (some (.ref C)), csl⟩) ∧
    ∃ (ccl : Value) (cdd : Option Addr) (ccs : Array (Option Value)) (vs : Array Value) (file : Str) (tf : Tok), K.lookup cda = some ⟨ccl, cdd, .fields vs, ccs⟩ ∧ vs[2]? = some (.str file tf) ∧ ((prog.main.file : Str) == file) = true
def two (v v2 : Value) : Str → Option Value := fun y => if y = "number" then some v2 else if y = "reason" then some v else none
/-- what __init__ leaves of a fresh exception at e -/
structure SupEnd (h h' : Heap) (e C dx t1 : Addr) (v v2 : Value) : Prop where
  keep : ∀ b o, b ≠ e → h.get? b = some o → h'.get? b = some o
  obj : h'.get? e = some { cls := .ref C, dict := some dx, data := .fields #[.ref t1, .none, .none, .none, .bool false, .none] }
  dbig : h.objs.size ≤ dx
  dne : dx ≠ e
  ns : h'.Ns1 dx (two v v2)
section
variable {prog : Program} {w : World} {A : Around} {E : Value → Shared → Prop} {R : Result → Shared → Prop} {s : Shared} {K : Frag} {mg mb : Str → Option Value} {x : Str} {C fI : Addr}
theorem sup_init (T : SupTxt prog K mg x C fI) {e t0 : Addr} {v v2 : Value} (X : K.In s.heap) (hlim : s.heap.NoLimit) (G : s.heap.Ns mainGlobals mg) (Bn : s.heap.Ns builtinsNs mb) (hb : mb "super" = some (.type "super"))
    (hx : s.heap.get? e = some (excO C t0)) (hnx : K.lookup e = none) (hroom : A.depth < recursionLimit)
    (hq : ∀ h' tk dx t1, SupEnd s.heap h' e C dx t1 v v2 → R (.ok (.ret .none)) { s with heap := h', toks := tk }) :
    codeAny (model prog w) A (.call (.ref fI) ⟨[.ref e, v, v2], []⟩) R s := by
  obtain ⟨hp, g, d, t, os⟩ := s
  obtain ⟨oc, od, doc, pm, an, ct, osl, p1, p2, p3, q1, q2, q3, q4, qa, q5, q6, q7, q8, q9, q10, qb, qc, qd, qe, qual, cda, cc, ho, hcd, hline, ⟨cl, cld, csl, hcc⟩, ccl, cdd, ccs, vs, file, tf, hcode, hvs, hfile⟩ := T.fn
  obtain ⟨nm, q, N, bs, bm, sn, sub, ab, col, dd, k0, k1, k2, k3, k5, hC, hbm⟩ := T.cls
  have hcl : clsIn K C = some { name := nm, bases := bs, mro := .ref C :: bm, ns := N, qualname := q, hasDict := true, slotNames := sn, subclasses := sub, abstract := ab, collection := col, hasDel := false } := by unfold clsIn; rw [hC] <;> rfl
  refine ks_codeAny_call_defAt (fd := ksFn "__init__" qual (iA p1 p2 p3) (iB q1 q2 q3 q4 qa q5 q6 q7 q8 q9 q10 qb qc qd qe) iS .none .none doc pm an (.ref cda) ct cc) (body := iB q1 q2 q3 q4 qa q5 q6 q7 q8 q9 q10 qb qc qd qe)
    (binds := [("self", .ref e), ("reason", v), ("number", v2)]) hroom (X _ _ ho) rfl hlim (codeRec_of X hcd) rfl (BindsTo.of_eq (by first | rfl | with_unfolding_all rfl)) (show ∀ y ∈ iS.names, y.2 ≠ .cell by decide) (locs rfl) (fun h₀ hns hk => ?_)
  have X0 : K.In h₀ := X.keeps hk
  have he0 : h₀.get? e = some (excO C t0) := hk _ _ hx
  have I0 : InstAt h₀ e (excO C t0) C none := ⟨he0, rfl, rfl, trivial⟩
  have heL : e ≠ hp.objs.size := Nat.ne_of_lt (Heap.lt_size hx)
  refine ks_wpAt_execs_cons (env := ksEnv qual iS hp.objs.size fI (.ref cda) cc) (ks_wpAt_Expr_any ?_)
  have hcall : eval (.Call (.Attribute (.Call (.Name "super" q1) [] [] q2) "__init__" q3) [.Name "reason" q4, .Name "number" qa] [] q5) (ksEnv qual iS hp.objs.size fI (.ref cda) cc) = (do
      let ov ← attributeBase (.Call (.Name "super" q1) [] [] q2) "__init__" (ksEnv qual iS hp.objs.size fI (.ref cda) cc) (eval (.Call (.Name "super" q1) [] [] q2) (ksEnv qual iS hp.objs.size fI (.ref cda) cc))
      standAt q3.atName
      let (f, first) ← holding [ov] (getMethod ov "__init__" (L2.plainOf (.Call (.Name "super" q1) [] [] q2) (ksEnv qual iS hp.objs.size fI (.ref cda) cc)))
      callWith q5 f first (backTo q5 (starEach [.Name "reason" q4, .Name "number" qa] (ksEnv qual iS hp.objs.size fI (.ref cda) cc))) []) := by
    rw [arm_eval_Call]
    congr 1
    funext ov
    congr 1
    funext _
    exact L2.mcall_line rfl hline
  refine ks_wpAt_MethodCall ?_ hcall
  refine ks_wpAt_super_base (env := ksEnv qual iS hp.objs.size fI (.ref cda) cc) rfl rfl rfl rfl (X0 _ _ ho) rfl rfl rfl (X0 _ _ hcode) rfl hvs hfile T.htop ?_
  refine ks_loadName_global rfl rfl (loadGlobal_builtin (env := ksEnv qual iS hp.objs.size fI (.ref cda) cc) (G.keeps hk) T.free (Bn.keeps hk) hb ⟨rfl, ?_⟩)
  refine wpAny_loadName_free rfl rfl rfl ⟨_, X0 _ _ hcc, rfl⟩ ?_
  refine wpAny_loadName_local rfl rfl hns rfl ?_
  refine ks_wpAny_isType_cls (X0 _ _ hC) rfl ⟨rfl, ?_⟩
  refine ks_wpAny_call_super (X0 _ _ hC) rfl he0 rfl (fun c z => nomatch z) (looks_mroIn X0 T.self_) (fun h1 hso k1 => ?_)
  have X1 : K.In h1 := X0.keeps k1
  have I1 : InstAt h1 e (excO C t0) C none := ⟨k1 _ _ he0, rfl, rfl, trivial⟩
  have hal : alongIn K "__init__" (((Value.ref C :: bm).dropWhile (· != .ref C)).drop 1) = some (some (.builtin "ValueError.__init__")) := by
    have z := T.sup
    unfold ks_superIn at z
    rw [hcl] at z
    exact z
  refine kxs_getMethod kxs_ValueError hso (looks_opaque X1 T.stat) (l₀ := .ref C :: bm) (fun A Q E s k q => wpAny_bind ((looks_clsIn X1 hcl) A _ E s k (wpAny_pure q))) rfl X1 hal (I1.type.andThen (looks_subIn X1 T.vE)) (ks_ne X1 I1 hcl) rfl ?_
  have hmw : (h1.push (kxs_mw "ValueError.__init__" e)).get? h1.objs.size = some (kxs_mw "ValueError.__init__" e) := Heap.get?_push_size _ rfl
  have k2 : ∀ b o, h1.get? b = some o → (h1.push (kxs_mw "ValueError.__init__" e)).get? b = some o := fun b o z => Heap.get?_push_of_some _ z
  have k02 : ∀ b o, hp.get? b = some o → (h1.push (kxs_mw "ValueError.__init__" e)).get? b = some o := fun b o z => k2 b o (k1 b o (hk b o z))
  have hns2 : (h1.push (kxs_mw "ValueError.__init__" e)).Ns hp.objs.size (fun y => ([("self", .ref e), ("reason", v), ("number", v2)] : List (Str × Value)).reverse.lookup y) := by
    obtain ⟨oL, es, ep, hL, rr⟩ := hns
    exact ⟨oL, es, ep, k2 _ _ (k1 _ _ hL), rr⟩
  have hargs : starEach [.Name "reason" q4, .Name "number" qa] (ksEnv qual iS hp.objs.size fI (.ref cda) cc) = (false, eval (.Name "reason" q4) (ksEnv qual iS hp.objs.size fI (.ref cda) cc)) :: (false, eval (.Name "number" qa) (ksEnv qual iS hp.objs.size fI (.ref cda) cc)) :: starEach [] (ksEnv qual iS hp.objs.size fI (.ref cda) cc) := rfl
  rw [hargs]
  refine kxs_callWith (i := "ValueError.__init__") (x := e) (u := h1.objs.size) rfl (evalArgs_plain (spliced_cons (wpAny_Name (wpAny_loadName_local rfl rfl hns2 rfl (spliced_cons (wpAny_Name (wpAny_loadName_local rfl rfl hns2 rfl (spliced_nil ⟨hmw, ?_⟩)) (by decide)))) (by decide))))
  have he2 : (h1.push (kxs_mw "ValueError.__init__" e)).get? e = some (excO C t0) := k2 _ _ (k1 _ _ he0)
  have hC2 := k2 _ _ (X1 _ _ hC)
  have FB := F.excBase_ValueError
  have b1 : (Value.type "method-wrapper" == Value.type "method" || Value.type "method-wrapper" == Value.type "builtin_function_or_method" || Value.type "method-wrapper" == Value.type "method-wrapper") = true := by decide
  refine wpAny_call (codeAny_of_tree (show wpAny (model prog w) _ (callAny (.ref h1.objs.size) ⟨[v, v2], []⟩) _ _ _ from ?_))
  unfold callAny
  refine wpAny_bind (wpAny_load hmw ?_)
  simp only [kxs_mw, b1, if_true]
  refine KFB.if_so (by decide) (wpAny_bind (check_bound_init FB.toExcCallFacts hC2 he2 rfl (wpAny_bind (wpAny_pure (wpAny_pure ⟨plainId_quiet FB.init.plain _, codeAny_builtin FB.initEntry ?_⟩)))))
  refine exc_init_tree (cls := .ref C) (t0 := t0) (dv := none) (c2 := .none) (c3 := .none) (b4 := .bool false) he2 (by show 2 ≤ sizeLine; decide) (fun h3 k3 he3 ht3 => ?_)
  have X3 : K.In h3 := SupX.in_but (X.keeps k02) hnx k3
  have hns3 : h3.Ns hp.objs.size (fun y => ([("self", .ref e), ("reason", v), ("number", v2)] : List (Str × Value)).reverse.lookup y) := by
    obtain ⟨oL, es, ep, hL, rr⟩ := hns2
    exact ⟨oL, es, ep, k3 _ _ (Ne.symm heL) hL, rr⟩
  have hlt : hp.objs.size < h3.objs.size := hns3.lt
  refine wpAt_of_wpAny (wpAny_execs_cons (plainObj_wpAny_Assign_Attribute ?_))
  refine wpAny_Name (wpAny_loadName_local rfl rfl hns3 rfl (wpAny_Name (wpAny_loadName_local rfl rfl hns3 rfl ?_) (by decide))) (by decide)
  refine set_plain X3 (ox := excO C (h1.push (kxs_mw "ValueError.__init__" e)).objs.size) (od := none) ⟨he3, rfl, rfl, trivial⟩ T.sa ?_
  refine exc_osa X3 he3 hcl (show refsVE (.ref C :: bm) = true from hbm) rfl T.no1 (fun h4 tk4 dx k4 dn dne he4 hn4 => ?_)
  have hnd : K.lookup dx = none := by
    cases z : K.lookup dx with
    | none => rfl
    | some o => exact absurd (Heap.lt_size (X3 _ _ z)) (Nat.not_lt.mpr dn)
  have X4 : K.In h4 := SupX.in_but X3 hnx k4
  have hns4 : h4.Ns hp.objs.size (fun y => ([("self", .ref e), ("reason", v), ("number", v2)] : List (Str × Value)).reverse.lookup y) := by
    obtain ⟨oL, es, ep, hL, rr⟩ := hns3
    exact ⟨oL, es, ep, k4 _ _ (Ne.symm heL) hL, rr⟩
  obtain ⟨oD, esD, epD, hoD, _⟩ := hn4.count (ns := ["reason"]) (fun y hy => by
    by_cases z : y = "reason"
    · rw [z]; exact List.mem_singleton.mpr rfl
    · exact absurd (if_neg z) hy)
  refine wpAny_execs_cons (plainObj_wpAny_Assign_Attribute ?_)
  refine wpAny_Name (wpAny_loadName_local rfl rfl hns4 rfl (wpAny_Name (wpAny_loadName_local rfl rfl hns4 rfl ?_) (by decide))) (by decide)
  refine set_plain X4 (ox := { cls := .ref C, dict := some dx, data := .fields #[.ref (h1.push (kxs_mw "ValueError.__init__" e)).objs.size, .none, .none, .none, .bool false, .none] }) (od := some oD) ⟨he4, rfl, rfl, hoD⟩ T.sa ?_
  refine PySem.OEX.osa_old X4 he4 hn4 (nl := ["reason"]) (fun y hy => by
    by_cases z : y = "reason"
    · rw [z]; exact List.mem_singleton.mpr rfl
    · exact absurd (if_neg z) hy) (by decide) hcl (show refsVE (.ref C :: bm) = true from hbm) rfl T.no2 (fun h5 tk5 k5' hn5 => ?_)
  refine wpAny_execs_nil (hq h5 tk5 dx _ ⟨fun b o nb z => k5' b o (fun y => ?_) (k4 b o nb (k3 b o nb (k02 b o z))), k5' _ _ (Ne.symm dne) he4, Nat.le_trans (Nat.le_of_lt hlt) dn, dne, hn5⟩)
  subst y
  exact absurd (Nat.lt_of_lt_of_le (Nat.lt_trans (Heap.lt_size z) hlt) dn) (Nat.lt_irrefl _)
/-- such an error made -/
structure SupMade (h h' : Heap) (e C d : Addr) (v v2 : Value) : Prop where
  keep : ∀ b o, h.get? b = some o → h'.get? b = some o
  new : h.objs.size ≤ e
  obj : ∃ oe vs, h'.get? e = some oe ∧ oe.cls = .ref C ∧ oe.dict = some d ∧ oe.data = .fields vs ∧ vs[1]? = some .none
  dbig : h.objs.size ≤ d
  dne : d ≠ e
  ns : h'.Ns1 d (two v v2)
theorem sup_made (T : SupTxt prog K mg x C fI) {v v2 : Value} (X : K.In s.heap) (hlim : s.heap.NoLimit) (G : s.heap.Ns mainGlobals mg) (Bn : s.heap.Ns builtinsNs mb) (hb : mb "super" = some (.type "super")) (hroom : A.depth + 1 < recursionLimit)
    (hq : ∀ h' tk e d, SupMade s.heap h' e C d v v2 → R (.ok (.ret (.ref e))) { s with heap := h', toks := tk }) :
    codeAny (model prog w) A (.call (.ref C) ⟨[v, v2], []⟩) R s := by
  obtain ⟨nm, q, N, bs, bm, sn, sub, ab, col, dd, k0, k1, k2, k3, k5, hC, hbm⟩ := T.cls
  obtain ⟨hp, g, dr, tk, os⟩ := s
  have k : ∀ b o, hp.get? b = some o → ((hp.push (kdv_tup [v, v2])).push (excO C hp.objs.size)).get? b = some o := fun b o z => Heap.get?_push_of_some _ (Heap.get?_push_of_some _ z)
  have hget : ((hp.push (kdv_tup [v, v2])).push (excO C hp.objs.size)).get? (hp.objs.size + 1) = some (excO C hp.objs.size) := by heap_get
  have hnx : K.lookup (hp.objs.size + 1) = none := by
    cases z : K.lookup (hp.objs.size + 1) with
    | none => rfl
    | some o => exact absurd (Nat.lt_of_succ_lt (Heap.lt_size (show hp.get? (hp.objs.size + 1) = some o from X _ _ z))) (Nat.lt_irrefl _)
  refine call_own F.excBase_ValueError (fun X => refsVE_contains X bm hbm) (X _ _ hC) (looks_findIn X T.iC) (fun self => bind_fn X self T.tC) (by show 2 ≤ sizeLine; decide) ?_
  refine sup_init (s := ⟨(hp.push (kdv_tup [v, v2])).push (excO C hp.objs.size), g, dr, tk, os⟩) T (X.keeps k) (hlim.keeps k) (G.keeps k) (Bn.keeps k) hb hget hnx (show A.depth + 1 < recursionLimit from hroom) fun h' tk' dx t1 S => ?_
  have old : ∀ b o, hp.get? b = some o → h'.get? b = some o := fun b o z => S.keep b o (Nat.ne_of_lt (Nat.lt_succ_of_lt (Heap.lt_size z))) (k b o z)
  have z : hp.objs.size + 1 + 1 ≤ dx := by
    have q := S.dbig
    first
      | exact q
      | (simpa only [Heap.size_push] using q)
  exact ⟨rfl, hq h' tk' (hp.objs.size + 1) dx ⟨old, Nat.le_succ _, ⟨_, _, S.obj, rfl, rfl, rfl, rfl⟩, Nat.le_trans (Nat.le_trans (Nat.le_succ _) (Nat.le_succ _)) z, S.dne, S.ns⟩⟩
/-- the class x with its __init__ -/
def supB (K : Frag) (file x qual : Str) : Bool :=
  SupX.clsB K (He.ga K x) && (SupX.eqO (findIn K (.ref (He.ga K x)) "__setattr__") (some (some (.builtin "object.__setattr__"))) && (SupX.eqO (findIn K (.ref (He.ga K x)) "__getattribute__") (some (some (.builtin "BaseException.__getattribute__"))) &&
  (SupX.eqO (findIn K (.ref (He.ga K x)) "__getattr__") (some none) && (SupX.eqO (findIn K (.ref (He.ga K x)) "reason") (some none) && (SupX.eqO (findIn K (.ref (He.ga K x)) "number") (some none) && (SupX.eqO (findIn K (.ref (He.ga K x)) "__init__") (some (some (.ref (He.ma K (He.ga K x) "__init__")))) &&
  (decide (typeIn K (.ref (He.ma K (He.ga K x) "__init__")) = some (.type "function")) && (keepIn K (.ref (He.ga K x)) && (SupX.eqB (subIn K (.ref (He.ga K x)) (.type "BaseException")) true && (SupX.eqB (subIn K (.ref (He.ga K x)) (.type "ValueError")) true &&
  (decide (typeIn K (.ref (He.ga K x)) = some (.type "type")) && (hasDictIn K (He.ga K x) && (SupX.eqO (ks_superIn K (He.ga K x) (He.ga K x) "__init__") (some (some (.builtin "ValueError.__init__"))) && (SupX.eqB (mroIn K (He.ga K x) (.ref (He.ga K x))) true &&
  (SupX.eqO (nsIn K cStatics "thirdparty.any") (some none) && SupX.fnB K file qual (He.ga K x) (He.ma K (He.ga K x) "__init__"))))))))))))))))
theorem sup_ok {prog : Program} {K : Frag} {mg : Str → Option Value} {x qual : Str} {p1 p2 p3 q1 q2 q3 q4 qa q5 q6 q7 q8 q9 q10 qb qc qd qe : Pos} (gC : mg x = some (.ref (He.ga K x))) (free : mg "super" = none) (htop : (prog.main.scope.names.lookup (Str.ofString "super")).isSome = false)
    (e : SupX.fnC K (He.ma K (He.ga K x) "__init__") = some ((("__init__" : Str)), qual, iA p1 p2 p3, FuncBody.stmts (iB q1 q2 q3 q4 qa q5 q6 q7 q8 q9 q10 qb qc qd qe), iS, mainGlobals, builtinsNs)) (hq : (q3.endLine == q5.line) = true) (h : supB K (prog.main.file : Str) x qual = true) :
    SupTxt prog K mg x (He.ga K x) (He.ma K (He.ga K x) "__init__") := by
  unfold supB at h
  simp only [Bool.and_eq_true] at h
  obtain ⟨h1, h2, h3, h4, h5, h5', h6, h7, h8, h9, h10, h11, h12, h13, h14, h15, h16⟩ := h
  obtain ⟨oc, od, doc, pm, an, ct, osl, cda, cc, k1, k2, k3, k4⟩ := SupX.fn_ok e h16
  exact ⟨gC, SupX.clsB_ok h1, of_decide_eq_true h2, of_decide_eq_true h3, of_decide_eq_true h4, of_decide_eq_true h5, of_decide_eq_true h5', of_decide_eq_true h6, of_decide_eq_true h7, h8, of_decide_eq_true h9, of_decide_eq_true h10, of_decide_eq_true h11, h12, of_decide_eq_true h13, of_decide_eq_true h14, of_decide_eq_true h15, free, htop,
    oc, od, doc, pm, an, ct, osl, p1, p2, p3, q1, q2, q3, q4, qa, q5, q6, q7, q8, q9, q10, qb, qc, qd, qe, qual, cda, cc, k1, k2, hq, k3, k4⟩
end
end SupRN
namespace L2
open PySem PySem.Spec PyProof.Rows
theorem relO_SupRN {v v2 : V} {v' v2' : Value} (r : RelV v v') (r2 : RelV v2 v2') (f : Str) : RelO (List.lookup f [(("reason" : Str), v), ("number", v2)]) (SupRN.two v' v2' f) := by
  unfold SupRN.two
  by_cases hw : f = "number"
  · subst hw
    rw [if_pos rfl]
    have q : List.lookup ("number" : Str) [(("reason" : Str), v), ("number", v2)] = some v2 := by
      have e : (("number" : Str) == ("reason" : Str)) = false := by decide
      simp [List.lookup, e]
    rw [q]
    exact r2
  rw [if_neg hw]
  have qw2 : (f == ("number" : Str)) = false := by simpa using hw
  by_cases hw : f = "reason"
  · subst hw
    rw [if_pos rfl]
    have q : List.lookup ("reason" : Str) [(("reason" : Str), v), ("number", v2)] = some v := by simp [List.lookup]
    rw [q]
    exact r
  · rw [if_neg hw]
    have qw : (f == ("reason" : Str)) = false := by simpa using hw
    have q2 : List.lookup f [(("reason" : Str), v), ("number", v2)] = none := by simp [List.lookup, qw, qw2]
    rw [q2]
    trivial
section
variable {X : Cx} {x : Str} {C fI : Addr}
/-- C(e, e2), such an error -/
def tMkSupRN (C : Addr) (ta : TA) : L2.St → Hp → XK → Prop := fun σ H Q => ta σ H fun vs H1 => ∃ v v2, vs = [v, v2] ∧ ∀ d, H1 d = none → Q (.ref C) (some d) (upd H1 d (.xd [(("reason" : Str), v), ("number", v2)]))
theorem pmk_SupRN {a b : Expr} {ta : TA} {p pos : Pos} {k : Nat} (T : SupRN.SupTxt X.prog X.K X.mg x C fI) (hr : Room k X.A) (ha : PA X [a, b] ta) (hg : Gl X x := by rfl) (hdb : (x == ("__debug__" : Str)) = false := by decide)
    (he : starEach (a :: [b]) X.env = (false, eval a X.env) :: starEach [b] X.env := by rfl) (hpl : (backTo pos (starEach [b] X.env)).any (·.1) = false := by rfl) :
    PMk X (.Call (.Name x p) [a, b] [] pos) (tMkSupRN C ta) := by
  intro pins s σ H Q I h
  refine wpAny_Call_Name_kw (ld_glob I hg T.gC ?_ hdb)
  refine PySem.W.callWith_K (h₀ := X.base) I.ok.mod.kin T.kC (thn (ha.run pos pins s σ H _ I h) fun us s1 hh => ?_) he hpl
  obtain ⟨vs, H1, I1, r1, v, v2, ev, q1⟩ := hh
  subst ev
  refine ⟨I1.kIn, ?_⟩
  cases r1 with
  | cons rv rn =>
    rename_i v' us'
    cases rn with
    | cons rv2 rn =>
      rename_i v2' us''
      cases rn
      show wpAny _ _ (call (.ref C) [v', v2']) _ _ _
      have hlim := I1.nolimit
      obtain ⟨mb, hB, hmb⟩ := I1.ok.mod.blt
      have hG := I1.ok.mod.glob.keeps I1.bk
      have hB := hB.keeps I1.bk
      have hsup : mb "super" = some (.type "super") := (hmb "super" (by decide)).trans (by decide +kernel)
      obtain ⟨hp, g, dr, tk, os⟩ := s1
      refine wpAny_call (SupRN.sup_made (s := ⟨hp, g, dr, tk, os⟩) T I1.kIn hlim hG hB hsup (by have := hr.dp; omega) fun h' tk' e d M => ?_)
      show MkP X pins σ Q (.ref e) ⟨h', g, dr, tk', os⟩
      obtain ⟨oe, fv, hoe, hc, hd, hdat, h1⟩ := M.obj
      obtain ⟨G', g1, g2⟩ := restrict h' fun b => decide (b ≠ e)
      have gk : ∀ b, b ≠ e → G'.get? b = h'.get? b := fun b hb => g1 b (decide_eq_true hb)
      have ge : G'.get? e = none := g2 e (by simp)
      have old : ∀ b o, hp.get? b = some o → G'.get? b = some o := fun b o q => (gk b (Nat.ne_of_lt (Nat.lt_of_lt_of_le (Heap.lt_size q) M.new))).trans (M.keep b o q)
      have ob : ObjOk X.prog X.w (upd H1 d (.xd [(("reason" : Str), v), ("number", v2)])) G' d (.xd [(("reason" : Str), v), ("number", v2)]) := ⟨_, M.ns.at (fun o q => (gk d M.dne).trans q), fun f => relO_SupRN rv rv2 f⟩
      have J : Inv X pins σ (upd H1 d (.xd [(("reason" : Str), v), ("number", v2)])) ⟨G', g, dr, tk', os⟩ := I1.laid (t' := tk') old M.dbig ob
      refine ⟨e, oe, fv, ⟨G', g, dr, tk', os⟩, _, .ref C, some d, rfl, J, fun b o q => ?_, ge, hoe, ⟨hc, hd⟩, hdat, h1, ?_, rfl, I1.bare, raises_own T.exC T.tyC, q1 d (I1.hok.fresh M.dbig)⟩
      · by_cases hb : b = e
        · have q' : G'.get? b = some o := q
          rw [hb, ge] at q'; cases q'
        · exact (gk b hb).symm.trans q
      · rw [upd_ne (Ne.symm M.dne)]
        exact I1.hok.fresh M.new
def tRaiseSupRN (C : Addr) (W : WX) (ta : TA) : TS := fun _ τ G => tMkSupRN C ta τ G fun cls d G' => W cls d τ G'
theorem ps_raiseSupRN {a b : Expr} {ta : TA} {W : WX} {p pos pos2 : Pos} {k : Nat} (hc : X.calm = true) (T : SupRN.SupTxt X.prog X.K X.mg x C fI) (hr : Room k X.A) (tk : Takes X W) (ha : PA X [a, b] ta) (hg : Gl X x := by rfl) (hdb : (x == ("__debug__" : Str)) = false := by decide)
    (he : starEach (a :: [b]) X.env = (false, eval a X.env) :: starEach [b] X.env := by rfl) (hpl : (backTo pos (starEach [b] X.env)).any (·.1) = false := by rfl) :
    PS X (.Raise (some (.Call (.Name x p) [a, b] [] pos)) none pos2) (tRaiseSupRN C W ta) := ps_raise hc tk (pmk_SupRN T hr ha hg hdb he hpl)
end
end L2

set_option Elab.async false
set_option linter.all false
set_option maxRecDepth 100000
set_option maxHeartbeats 2000000
namespace G3
open PySem PySem.Spec PyProof.Rows L2
/-! ## maps of graphs: what is a map, by data alone -/
/-- the first number below n that fails -/
def fbad (p : Nat → Bool) (n : Nat) : Option Nat := (List.range n).find? fun i => !p i
theorem fbad_some {p : Nat → Bool} {n i : Nat} (hi : i < n) (h1 : ∀ j, j < i → p j = true) (h2 : p i = false) : fbad p n = some i := by
  unfold fbad
  rw [List.find?_eq_some_iff_getElem]
  refine ⟨by rw [h2]; rfl, i, by rw [List.length_range]; exact hi, by rw [List.getElem_range], fun j hj => ?_⟩
  rw [List.getElem_range, h1 j hj]; rfl
theorem fbad_none {p : Nat → Bool} {n : Nat} (h : ∀ j, j < n → p j = true) : fbad p n = none := by
  unfold fbad
  rw [List.find?_eq_none]
  intro j hj
  rw [h j (List.mem_range.mp hj)]; decide
theorem fbad_all {p : Nat → Bool} {n : Nat} (h : fbad p n = none) : ∀ j, j < n → p j = true := fun j hj => by
  unfold fbad at h
  rw [List.find?_eq_none] at h
  have := h j (List.mem_range.mpr hj)
  cases hp : p j with
  | true => rfl
  | false => rw [hp] at this; exact absurd rfl this
theorem fbad_at {p : Nat → Bool} {n i : Nat} (h : fbad p n = some i) : i < n ∧ (∀ j, j < i → p j = true) ∧ p i = false := by
  unfold fbad at h
  rw [List.find?_eq_some_iff_getElem] at h
  obtain ⟨h1, k, hk, h2, h3⟩ := h
  rw [List.length_range] at hk
  rw [List.getElem_range] at h2
  subst h2
  refine ⟨hk, fun j hj => ?_, by simpa using h1⟩
  have := h3 j hj
  rw [List.getElem_range] at this
  simpa using this
def rowD : PyData → Option (List PyData)
  | .list ds => some ds
  | .tuple ds => some ds
  | _ => none
def isPl (gn : Nat) : PyData → Bool
  | .int z => decide (0 ≤ z) && decide (z < gn)
  | _ => false
def natD : PyData → Nat
  | .int z => z.toNat
  | _ => 0
def faultP (n gn : Nat) (d : PyData) : Option V := match rowD d with
  | none => some .non
  | some ds => if ds.length = n then (fbad (fun i => isPl gn (ds.getD i .none)) n).map nV else some .non
def plOf (d : PyData) : List Nat := ((rowD d).getD []).map natD
theorem isPl_nat {gn : Nat} {d : PyData} (h : isPl gn d = true) : d = .int (natD d : Nat) ∧ natD d < gn := by
  cases d with
  | int z =>
    unfold isPl at h
    rw [Bool.and_eq_true, decide_eq_true_iff, decide_eq_true_iff] at h
    refine ⟨?_, ?_⟩
    · show PyData.int z = .int (z.toNat : Int)
      rw [Int.toNat_of_nonneg h.1]
    · show z.toNat < gn
      omega
  | _ => cases h
theorem faultP_none {n gn : Nat} {d : PyData} (h : faultP n gn d = none) : ∃ ds, rowD d = some ds ∧ ds = (plOf d).map (fun p : Nat => PyData.int (p : Int)) ∧ (plOf d).length = n ∧ ∀ p ∈ plOf d, p < gn := by
  unfold faultP at h
  cases hr : rowD d with
  | none => rw [hr] at h; cases h
  | some ds =>
    rw [hr] at h
    by_cases c : ds.length = n
    · have h : (if ds.length = n then (fbad (fun i => isPl gn (ds.getD i .none)) n).map nV else some .non) = none := h
      rw [if_pos c, Option.map_eq_none_iff] at h
      have hall := fbad_all h
      have e : plOf d = ds.map natD := by unfold plOf; rw [hr]; rfl
      have hd : ∀ x ∈ ds, isPl gn x = true := fun x hx => by
        obtain ⟨i, hi, rfl⟩ := List.getElem_of_mem hx
        have := hall i (by omega)
        rw [List.getD_eq_getElem?_getD, List.getElem?_eq_getElem hi] at this
        exact this
      refine ⟨ds, rfl, ?_, by rw [e, List.length_map]; exact c, fun p hp => ?_⟩
      · rw [e, List.map_map]
        refine (List.map_id ds).symm.trans (List.map_congr_left fun x hx => ?_)
        exact (isPl_nat (hd x hx)).1
      · rw [e] at hp
        obtain ⟨x, hx, rfl⟩ := List.mem_map.mp hp
        exact (isPl_nat (hd x hx)).2
    · have h : (if ds.length = n then (fbad (fun i => isPl gn (ds.getD i .none)) n).map nV else some .non) = none := h
      rw [if_neg c] at h; cases h
/-- the two ends of an edge, seen below -/
def sidesOf (ps : List Nat) (e : Pr) : Pr := (min (ps.getD e.1 0) (ps.getD e.2 0), max (ps.getD e.1 0) (ps.getD e.2 0))
def isOv (ges : List Pr) (s : Pr) (d : PyData) : Bool := if s.1 = s.2 then (match d with | .none => true | _ => false) else match d with
  | .int z => decide (0 ≤ z) && (decide (z < ges.length) && decide (ges.getD z.toNat (0, 0) = s))
  | _ => false
def optD : PyData → Option Nat
  | .int z => some z.toNat
  | _ => none
def optV : Option Nat → V
  | none => .non
  | some k => nV k
def optP : Option Nat → PyData
  | none => .none
  | some k => .int (k : Nat)
def faultE (es ges : List Pr) (ps : List Nat) (d : PyData) : Option V := match rowD d with
  | none => some .non
  | some ds => if ds.length = es.length then (fbad (fun k => isOv ges (sidesOf ps (es.getD k (0, 0))) (ds.getD k .none)) es.length).map nV else some .non
def imOf (d : PyData) : List (Option Nat) := ((rowD d).getD []).map optD
theorem isOv_opt {ges : List Pr} {s : Pr} {d : PyData} (h : isOv ges s d = true) : d = optP (optD d) ∧ (s.1 = s.2 → optD d = none) ∧ (s.1 ≠ s.2 → ∃ k, optD d = some k ∧ k < ges.length ∧ ges.getD k (0, 0) = s) := by
  unfold isOv at h
  by_cases c : s.1 = s.2
  · rw [if_pos c] at h
    cases d with
    | none => exact ⟨rfl, fun _ => rfl, fun z => absurd c z⟩
    | _ => cases h
  · rw [if_neg c] at h
    cases d with
    | int z =>
      have h : (decide (0 ≤ z) && (decide (z < ges.length) && decide (ges.getD z.toNat (0, 0) = s))) = true := h
      rw [Bool.and_eq_true, Bool.and_eq_true, decide_eq_true_iff, decide_eq_true_iff, decide_eq_true_iff] at h
      refine ⟨?_, fun z => absurd z c, fun _ => ⟨z.toNat, rfl, by omega, h.2.2⟩⟩
      show PyData.int z = .int (z.toNat : Int)
      rw [Int.toNat_of_nonneg h.1]
    | _ => cases h
theorem faultE_none {es ges : List Pr} {ps : List Nat} {d : PyData} (h : faultE es ges ps d = none) : ∃ ds, rowD d = some ds ∧ ds = (imOf d).map optP ∧ (imOf d).length = es.length ∧
    ∀ k, k < es.length → ((sidesOf ps (es.getD k (0, 0))).1 = (sidesOf ps (es.getD k (0, 0))).2 → (imOf d)[k]? = some none) ∧ ((sidesOf ps (es.getD k (0, 0))).1 ≠ (sidesOf ps (es.getD k (0, 0))).2 → ∃ j, (imOf d)[k]? = some (some j) ∧ j < ges.length ∧ ges.getD j (0, 0) = sidesOf ps (es.getD k (0, 0))) := by
  unfold faultE at h
  cases hr : rowD d with
  | none => rw [hr] at h; cases h
  | some ds =>
    rw [hr] at h
    have h : (if ds.length = es.length then (fbad (fun k => isOv ges (sidesOf ps (es.getD k (0, 0))) (ds.getD k .none)) es.length).map nV else some .non) = none := h
    by_cases c : ds.length = es.length
    · rw [if_pos c, Option.map_eq_none_iff] at h
      have hall := fbad_all h
      have e : imOf d = ds.map optD := by unfold imOf; rw [hr]; rfl
      have hd : ∀ i, (hi : i < ds.length) → isOv ges (sidesOf ps (es.getD i (0, 0))) ds[i] = true := fun i hi => by
        have := hall i (by omega)
        rw [List.getD_eq_getElem?_getD (l := ds), List.getElem?_eq_getElem hi] at this
        exact this
      refine ⟨ds, rfl, ?_, by rw [e, List.length_map]; exact c, fun k hk => ?_⟩
      · rw [e, List.map_map]
        refine (List.map_id ds).symm.trans (List.map_congr_left fun x hx => ?_)
        obtain ⟨i, hi, rfl⟩ := List.getElem_of_mem hx
        exact (isOv_opt (hd i hi)).1
      · have hk2 : k < ds.length := by omega
        obtain ⟨_, a2, a3⟩ := isOv_opt (hd k hk2)
        have ek : (imOf d)[k]? = some (optD ds[k]) := by rw [e, List.getElem?_map, List.getElem?_eq_getElem hk2]; rfl
        rw [ek]
        exact ⟨fun z => by rw [a2 z], fun z => by
          obtain ⟨j, b1, b2, b3⟩ := a3 z
          exact ⟨j, by rw [b1], b2, b3⟩⟩
    · rw [if_neg c] at h; cases h
/-- edges over edge k at place v -/
def cntE (es : List Pr) (im : List (Option Nat)) (v k : Nat) : Nat := (es.zip im).countP fun p => (decide (p.1.1 = v) || decide (p.1.2 = v)) && decide (p.2 = some k)
def wantE (ges : List Pr) (p : Nat) : List Nat := (List.range ges.length).filter fun k => decide ((ges.getD k (0, 0)).1 = p) || decide ((ges.getD k (0, 0)).2 = p)
def rowS (es : List Pr) (im : List (Option Nat)) (ges : List Pr) (ps : List Nat) (v : Nat) : List Nat := (wantE ges (ps.getD v 0)).map fun k => cntE es im v k
def evB (l : List Nat) : Bool := l.all fun x => decide (x = l.headD 0)
def faultS (es : List Pr) (im : List (Option Nat)) (ges : List Pr) (ps : List Nat) (n : Nat) : Option V := (fbad (fun v => evB (rowS es im ges ps v)) n).map nV
def shOf (es : List Pr) (im : List (Option Nat)) (ges : List Pr) (ps : List Nat) (n : Nat) : List Nat := (List.range n).map fun v => (rowS es im ges ps v).headD 0
def degOf (im : List (Option Nat)) : Nat := im.countP fun o => decide (o = some 0)
def faultM (n : Nat) (es : List Pr) (gn : Nat) (ges : List Pr) (d1 d2 : PyData) : Option (Str × V) :=
  if gn = 1 then some ("goal", .non) else match faultP n gn d1 with
  | some num => some ("places", num)
  | none => match faultE es ges (plOf d1) d2 with
    | some num => some ("edges", num)
    | none => (faultS es (imOf d2) ges (plOf d1) n).map fun num => ("sheets", num)
/-- an argument: data, or an empty dict -/
def ArgD (K : PySem.W.Frag) (H : Hp) (v : V) (d : PyData) : Prop := Dp K H v d ∨ (d = .dict [] ∧ ∃ a, v = .ref a ∧ H a = some (.dK []))
theorem ArgD.same {K : PySem.W.Frag} {H H' : Hp} {v : V} {d : PyData} (h : ArgD K H v d) (e : Same H H') : ArgD K H' v d := by
  rcases h with h | ⟨h1, a, h2, h3⟩
  · exact .inl (Dp.same e h)
  · exact .inr ⟨h1, a, h2, e _ _ h3⟩
theorem argD_cases {K : PySem.W.Frag} {H : Hp} {v : V} {d : PyData} (h : ArgD K H v d) :
    (∃ (a : Addr) (xs : List V) (ds : List PyData), v = .ref a ∧ (SqL K H a xs ∨ SqT K H a xs) ∧ DpAll K H xs ds ∧ rowD d = some ds) ∨ (TyX K H v (.type (tyN d)) ∧ isSeqD d = false ∧ rowD d = none) := by
  rcases h with h | ⟨rfl, a, rfl, h3⟩
  · have ty := Dp.ty h
    cases h with
    | lst h t => exact .inl ⟨_, _, _, rfl, .inl h, t, rfl⟩
    | tup h t => exact .inl ⟨_, _, _, rfl, .inr h, t, rfl⟩
    | non => exact .inr ⟨ty, rfl, rfl⟩
    | bl b => exact .inr ⟨ty, rfl, rfl⟩
    | int i => exact .inr ⟨ty, rfl, rfl⟩
    | str x => exact .inr ⟨ty, rfl, rfl⟩
  · exact .inr ⟨.base (.dK h3), rfl, rfl⟩
theorem dpAll_nats {K : PySem.W.Frag} {H : Hp} : ∀ {ps : List Nat} {xs : List V}, DpAll K H xs (ps.map fun p : Nat => PyData.int (p : Int)) → xs = ps.map nV
  | [], _, h => by cases h; rfl
  | p :: ps, _, h => by
    rw [List.map_cons] at h
    cases h with
    | cons h1 h2 =>
      cases h1
      rw [List.map_cons, dpAll_nats h2]
theorem dpAll_opts {K : PySem.W.Frag} {H : Hp} : ∀ {im : List (Option Nat)} {xs : List V}, DpAll K H xs (im.map optP) → xs = im.map optV
  | [], _, h => by cases h; rfl
  | none :: im, _, h => by
    rw [List.map_cons] at h
    cases h with
    | cons h1 h2 =>
      cases h1
      rw [List.map_cons, dpAll_opts h2]; rfl
  | some k :: im, _, h => by
    rw [List.map_cons] at h
    cases h with
    | cons h1 h2 =>
      cases h1
      rw [List.map_cons, dpAll_opts h2]; rfl
theorem row_tyM {K : PySem.W.Frag} {H : Hp} {a : Addr} {xs : List V} (h : SqL K H a xs ∨ SqT K H a xs) : ∃ d, TyX K H (.ref a) (.type (tyN d)) ∧ isSeqD d = true := by
  rcases h with h | h
  · exact ⟨.list [], ty_l h, rfl⟩
  · exact ⟨.tuple [], ty_t h, rfl⟩
theorem row_lenM {K : PySem.W.Frag} {H : Hp} {a : Addr} {xs : List V} (h : SqL K H a xs ∨ SqT K H a xs) : LenV K (.ref a) H xs.length := h.imp (fun h => ⟨_, h, rfl⟩) fun h => ⟨_, h, rfl⟩
/-- a graph with its measures -/
def Gk (H : Hp) (C g : Addr) (n : Nat) (es : List Pr) : Prop := (∃ kd, GrAt H C g n es kd) ∧ Good n es ∧ 1 ≤ n ∧ n ≤ 64 ∧ es.length ≤ 400 ∧ Lex es
theorem Gk.same {H H' : Hp} {C g : Addr} {n : Nat} {es : List Pr} (h : Gk H C g n es) (e : Same H H') : Gk H' C g n es := ⟨h.1.imp fun _ h => h.same e, h.2⟩
theorem flat_nV : ∀ l : List Nat, (l.map nV).all flatV = true
  | [] => rfl
  | a :: l => by
    rw [List.map_cons, List.all_cons, flat_nV l]; rfl
theorem eqV_nV {a b : Nat} : eqV (nV a) (nV b) = decide (a = b) := by
  show decide ((a : Int) = b) = _
  exact decide_eq_decide.mpr ⟨fun h => by omega, fun h => by omega⟩
theorem inV_nV {a : Nat} : ∀ l : List Nat, inV (nV a) (l.map nV) = l.contains a
  | [] => rfl
  | b :: l => by
    show (eqV (nV b) (nV a) || inV (nV a) (l.map nV)) = _
    rw [inV_nV l, eqV_nV, List.contains_cons]
    congr 1
    by_cases c : b = a
    · rw [c]; simp
    · rw [decide_eq_false c]
      exact (beq_eq_false_iff_ne.mpr fun z => c z.symm).symm
theorem sorted_two {a b : Int} {ns : List Int} (h1 : ns.Perm [a, b]) (h2 : ns.Pairwise (· ≤ ·)) : ns = [min a b, max a b] := by
  have hl := h1.length_eq
  rcases ns with _ | ⟨x, _ | ⟨y, _ | ⟨z, r⟩⟩⟩
  · cases hl
  · cases hl
  · have hxy := (List.pairwise_cons.mp h2).1 y (List.mem_cons_self ..)
    have hx : x ∈ [a, b] := h1.mem_iff.mp (List.mem_cons_self ..)
    simp only [List.mem_cons, List.not_mem_nil, or_false] at hx
    have hs : x = a ∧ y = b ∨ x = b ∧ y = a := by
      rcases hx with rfl | rfl
      · have := h1.cons_inv
        exact .inl ⟨rfl, by simpa using this.mem_iff.mp (List.mem_cons_self ..)⟩
      · have := (h1.trans (List.Perm.swap _ _ _)).cons_inv
        exact .inr ⟨rfl, by simpa using this.mem_iff.mp (List.mem_cons_self ..)⟩
    have : x = min a b ∧ y = max a b := by omega
    rw [this.1, this.2]
  · cases hl
section
variable {P : Program} {w : World} {K : PySem.W.Frag} {mg : Str → Option Value} {base : Heap} {C CB fB : Addr}
abbrev n_told_places : List Str := ["graph", "goal", "places", "number", "place"]
abbrev p_told_places : List Str := ["graph", "goal", "places"]
theorem sc_told_places : FnScope n_told_places p_told_places (defScope s_told_places) := ⟨rfl, rfl, rfl, by decide +kernel, rfl, by decide +kernel, by decide +kernel⟩
abbrev n_is_over : List Str := ["graph", "goal", "places", "number", "edge", "sides", "place"]
abbrev p_is_over : List Str := ["graph", "goal", "places", "number", "edge"]
theorem sc_is_over : FnScope n_is_over p_is_over (defScope s_is_over) := ⟨rfl, rfl, rfl, by decide +kernel, rfl, by decide +kernel, by decide +kernel⟩
abbrev n_told_edges : List Str := ["graph", "goal", "places", "edges", "number", "edge"]
abbrev p_told_edges : List Str := ["graph", "goal", "places", "edges"]
theorem sc_told_edges : FnScope n_told_edges p_told_edges (defScope s_told_edges) := ⟨rfl, rfl, rfl, by decide +kernel, rfl, by decide +kernel, by decide +kernel⟩
def xRN (H : Hp) (l : Addr) (r : Str) (num : V) : Prop := H l = some (.xd [("reason", .str r), ("number", num)])
def spTP (K : PySem.W.Frag) (C CB : Addr) : Sp := fun vs H Q E => ∃ (g gg : Addr) (n gn : Nat) (es ges : List Pr) (v : V) (d : PyData), vs = [.ref g, .ref gg, v] ∧ Gk H C g n es ∧ Gk H C gg gn ges ∧ ArgD K H v d ∧
  (∀ (H' : Hp) (l : Addr), Same H H' → faultP n gn d = none → SqT K H' l ((plOf d).map nV) → Q (.ref l) H') ∧ (∀ (H' : Hp) (l : Addr) (num : V), Same H H' → H l = none → faultP n gn d = some num → xRN H' l "places" num → E (.ref CB) (some l) H')
theorem ok_told_places (D : DefAt K mg "told_places" "told_places" s_told_places) (B : Bt mg) (G : GraphC K C) (T : SupRN.SupTxt P K mg "BadGraphMap" CB fB) (h_is_whole_graphs : Has P w K mg base CX0 1 "is_whole_graphs" p_is_whole (spIsI K)) :
    Has P w K mg base (L2.CX P w) 2 "told_places" p_told_places (spTP K C CB) := by
  refine has_ofX D sc_told_places (fun _ _ _ _ _ _ us hl => match us, hl with | [_, _, _], _ => rfl) (fun vs H Q E h => ?_) (fun f cdv A outer s H vs Q E hr h => ?_)
  · obtain ⟨g, gg, n, gn, es, ges, v, d, rfl, _⟩ := h
    rfl
  · obtain ⟨g, gg, n, gn, es, ges, v, d, rfl, gr, gr2, hv, q, qe⟩ := h
    have tk : Takes (cxOf (L2.CX P w) P w K mg base n_told_places "told_places" (defScope s_told_places) f cdv A outer s H E) (fun cls d _ H => E cls d H) := takes_of rfl rfl rfl rfl
    refine ⟨_, (pss_cons (ps_if (PW.pt (pw_or (pt_not (pt_val (pe_callB (isiTK (K := K) rfl) rfl B.isinstance (by decide +kernel) (pa_cons (pv 2) (pa_cons (pe_tup (pa_cons (pe_bltn (v := .ty "tuple") (u := .type "tuple") rfl B.tuple (by decide +kernel) rfl) (pa_cons (pe_bltn (v := .ty "list") (u := .type "list") rfl B.list (by decide +kernel) rfl) pa_nil))) pa_nil))))) (pw_or1 (pt_cmpR op_ne (pe_callB (lenK (K := K) rfl) rfl B.len PySem.boot_len (pa_cons (pv 2) pa_nil)) (fldK (K := K) rfl (pv 0) rfl) (nomark _))))) (pss_one (ps_raiseSupRN rfl T hr tk (pa_cons pe_str (pa_cons pe_non pa_nil)))) pss_nil)
  (pss_cons (ps_for PassesOwn.leaving rfl (pi_enumR (K := K) rfl rfl B.enumerate (pa_cons (pv 2) pa_nil)) (pgT (K := K) (n := 2) rfl rfl (pgs_cons (pg_name (i := 3) sc_told_places.nd rfl (.inl rfl)) (pgs_cons (pg_name (i := 4) sc_told_places.nd rfl (.inl rfl)) pgs_nil))) (pss_one (ps_if (PW.pt (pw_or (pt_not (pt_val (pe_h h_is_whole_graphs hr pass0 (pa_cons (pv 4) pa_nil)))) (pw_or1 (pt_not (pt_chain op_le op_lt pe_int (pv 4) (fldK (K := K) rfl (pv 1) rfl)))))) (pss_one (ps_raiseSupRN rfl T hr tk (pa_cons pe_str (pa_cons (pv 3) pa_nil)))) pss_nil)))
  (pss_one (ps_ret (pe_callTy (tupK (K := K) rfl) rfl B.tuple (by decide +kernel) (pa_cons (pv 2) pa_nil)))))), ?_⟩
    obtain ⟨⟨kd, dx, eT, vs, hg, heT, hvs⟩, good, hn1, hn64, he4, _⟩ := id gr
    obtain ⟨⟨kd2, dx2, eT2, vs2, hg2, heT2, hvs2⟩, good2, hm1, hm64, he42, _⟩ := id gr2
    refine ⟨_, rfl, by show 2 ≤ sizeLine; decide, fun tp ntp => ?_⟩
    have s1 : Same H (upd H tp (.tup [.ty "tuple", .ty "list"])) := same_upd ntp
    have htp : (upd H tp (.tup [.ty "tuple", .ty "list"])) tp = some (.tup [.ty "tuple", .ty "list"]) := upd_same
    generalize upd H tp (.tup [.ty "tuple", .ty "list"]) = H1 at s1 htp
    have hg1 := s1 _ _ hg
    have xx : ∀ (num : V) (H2 : Hp), faultP n gn d = some num → Same H H2 → ∀ l, H2 l = none → E (.ref CB) (some l) (upd H2 l (.xd [("reason", .str "places"), ("number", num)])) := fun num H2 e sm l nl =>
      qe _ l num (sm.trans (same_upd nl)) (sm.free nl) e upd_same
    rcases argD_cases hv with ⟨a, xs, ds, e, hrow, hd, hrd⟩ | ⟨hty, hsq, hrd⟩
    · subst e
      have hrow1 := hrow.imp s1.seq (Same.seqT s1)
      obtain ⟨d0, ht, hs⟩ := row_tyM hrow1
      have lx := DpAll.len hd
      refine ⟨_, tp, _, _, _, isSeqD d0, rfl, htp, .cons (.ty _) (.cons (.ty _) .nil), ht, kt_tl d0, _, rfl, ?_⟩
      rw [hs]
      refine iteF ⟨_, rfl, _, _, rfl, row_lenM hrow1, _, rfl, g, C, dx, _, _, rfl, hg1, G.cls, G.n, rfl, ?_⟩
      refine ⟨rfl, _, rfl, ifN (fun ne => ?_) fun eq => ?_⟩
      · refine ⟨_, _, rfl, xx _ _ ?_ s1⟩
        unfold faultP
        rw [hrd]
        exact if_neg fun z => ne (congrArg V.int (by omega))
      have eq : ds.length = n := by injection eq with eq; omega
      refine ⟨_, rfl, a, rfl, ?_⟩
      refine for_enR (K := K) (a := a) (xs := xs) (H0 := H) hrow (fun i σ H' => ∃ (y z : Option V), σ = [some (.ref g), some (.ref gg), some (.ref a), y, z] ∧ Same H H' ∧ ∀ j, j < i → isPl gn (ds.getD j .none) = true) ?_ ?_ ?_ ?_
      · exact ⟨_, _, rfl, s1, fun j h => absurd h (Nat.not_lt_zero _)⟩
      · rintro i σ' H' ⟨_, _, _, sm, _⟩ o ho
        exact sm _ _ ho
      · rintro i x T0 σ' H' hx ⟨y, z, rfl, sm, hj⟩ nT
        have hi : i < ds.length := by rw [← lx]; exact (List.getElem?_eq_some_iff.mp hx).1
        obtain ⟨x', e1, dd⟩ := DpAll.get hd hi
        rw [hx] at e1
        obtain rfl := Option.some.inj e1
        have sT : Same H' (upd H' T0 (.tup [.int (i : Nat), x])) := same_upd nT
        refine ⟨T0, _, rfl, SqT.of upd_same, rfl, _, _, rfl, _, _, rfl, rfl, ?_⟩
        have eD : ds.getD i .none = ds[i] := by rw [List.getD_eq_getElem?_getD, List.getElem?_eq_getElem hi]; rfl
        have bad : isPl gn ds[i] = false → faultP n gn d = some (nV i) := fun z => by
          unfold faultP
          rw [hrd]
          show (if ds.length = n then _ else _) = _
          rw [if_pos eq, fbad_some (p := fun i => isPl gn (ds.getD i .none)) (by omega) hj (by rw [eD]; exact z)]; rfl
        have next : isPl gn ds[i] = true → ∀ j, j < i + 1 → isPl gn (ds.getD j .none) = true := fun z j hjl => by
          by_cases c : j < i
          · exact hj j c
          · have : j = i := by omega
            subst this
            rw [eD]; exact z
        generalize ds[i] = dd' at dd bad next
        refine ⟨_, rfl, x, _, rfl, Dp.same (sm.trans sT) dd, _, rfl, ?_⟩
        cases hw : isI x with
        | false =>
          refine iteT ⟨_, rfl, _, _, rfl, xx _ _ (bad ?_) (sm.trans sT)⟩
          cases dd <;> first | rfl | cases hw
        | true =>
          obtain ⟨z, rfl, rfl⟩ : ∃ z, x = .int z ∧ dd' = .int z := by
            cases dd <;> first | exact ⟨_, rfl, rfl⟩ | cases hw
          have hg2' := (sm.trans sT) _ _ hg2
          refine iteF ⟨_, rfl, _, _, rfl, rfl, _, rfl, ifD (fun h0 => ?_) (fun h0 => ?_)⟩
          · refine ⟨_, rfl, gg, C, dx2, _, _, rfl, hg2', G.cls, G.n, rfl, _, _, rfl, rfl, _, rfl, ifN (fun h1 => ?_) (fun h1 => ?_)⟩
            · refine ⟨_, rfl, _, _, rfl, xx _ _ (bad ?_) (sm.trans sT)⟩
              show (decide (0 ≤ z) && decide (z < (gn : Int))) = false
              rw [decide_eq_false h1, Bool.and_false]
            · refine ⟨_, _, rfl, sm.trans sT, next ?_⟩
              show (decide (0 ≤ z) && decide (z < (gn : Int))) = true
              rw [decide_eq_true h1, decide_eq_true h0]; rfl
          · refine ⟨_, rfl, iteT ⟨_, rfl, _, _, rfl, xx _ _ (bad ?_) (sm.trans sT)⟩⟩
            show (decide (0 ≤ z) && decide (z < (gn : Int))) = false
            rw [decide_eq_false h0, Bool.false_and]
      · rintro σ' H' ⟨y, z, rfl, sm, hj⟩
        have hf : faultP n gn d = none := by
          unfold faultP
          rw [hrd]
          show (if ds.length = n then _ else _) = _
          rw [if_pos eq, fbad_none (p := fun i => isPl gn (ds.getD i .none)) (fun j hj' => hj j (by omega))]; rfl
        obtain ⟨ds', hr', eds, _, _⟩ := faultP_none hf
        rw [hrd] at hr'
        cases hr'
        have exs : xs = (plOf d).map nV := dpAll_nats (by rw [← eds]; exact hd)
        subst exs
        rcases hrow with hrow | hrow
        · refine ⟨_, rfl, a, _, rfl, .inl ⟨sm.seq hrow, fun l nl => ?_⟩⟩
          exact q _ l (sm.trans (same_upd nl)) hf (SqT.of upd_same)
        · exact ⟨_, rfl, a, _, rfl, .inr ⟨Same.seqT sm hrow, q _ a sm hf (Same.seqT sm hrow)⟩⟩
    · refine ⟨_, tp, _, _, _, isSeqD d, rfl, htp, .cons (.ty _) (.cons (.ty _) .nil), tyx_same s1 hty, kt_tl d, _, rfl, ?_⟩
      rw [hsq]
      exact iteT ⟨_, _, rfl, xx _ _ (by unfold faultP; rw [hrd]) s1⟩
end
end G3

set_option Elab.async false
set_option linter.all false
set_option maxRecDepth 100000
set_option maxHeartbeats 2000000
namespace G3
open PySem PySem.Spec PyProof.Rows L2
theorem shaped_pair (a b : Int) : SeqAt.shaped (.tuple [.int a, .int b]) = true := by rfl
theorem eqv_pair {a b c d : Nat} : PyData.eqv (.tuple [.int a, .int b]) (.tuple [.int c, .int d]) = decide (((a, b) : Pr) = (c, d)) := by
  by_cases h1 : a = c
  · by_cases h2 : b = d
    · subst h1 h2
      rw [decide_eq_true rfl]
      simp [PyData.eqv, PyData.eqvAll]
    · rw [decide_eq_false (fun z => h2 (by cases z; rfl))]
      have : ¬ ((b : Int) = d) := by omega
      simp [PyData.eqv, PyData.eqvAll, this]
  · rw [decide_eq_false (fun z => h1 (by cases z; rfl))]
    have : ¬ ((a : Int) = c) := by omega
    simp [PyData.eqv, PyData.eqvAll, this]
section
variable {P : Program} {w : World} {K : PySem.W.Frag} {mg : Str → Option Value} {base : Heap} {C CB fB : Addr}
def spOv (K : PySem.W.Frag) (C : Addr) : Sp := fun vs H Q _ => ∃ (g gg pT : Addr) (n gn k : Nat) (es ges : List Pr) (ps : List Nat) (x : V) (d : PyData), vs = [.ref g, .ref gg, .ref pT, nV k, x] ∧ Gk H C g n es ∧ Gk H C gg gn ges ∧ SqT K H pT (ps.map nV) ∧ ps.length = n ∧ k < es.length ∧ Dp K H x d ∧
  ∀ (H' : Hp), Same H H' → Q (.bl (isOv ges (sidesOf ps (es.getD k (0, 0))) d)) H'
theorem ok_is_over (D : DefAt K mg "is_over" "is_over" s_is_over) (B : Bt mg) (G : GraphC K C) (h_is_whole_graphs : Has P w K mg base CX0 1 "is_whole_graphs" p_is_whole (spIsI K)) :
    Has P w K mg base CX0 2 "is_over" p_is_over (spOv K C) := by
  refine has_of D sc_is_over (fun _ _ _ _ _ _ us hl => match us, hl with | [_, _, _, _, _], _ => rfl) (fun vs H Q E h => ?_) (fun f cdv A outer s H vs Q E hr h => ?_)
  · obtain ⟨g, gg, pT, n, gn, k, es, ges, ps, x, d, rfl, _⟩ := h
    rfl
  · obtain ⟨g, gg, pT, n, gn, k, es, ges, ps, x, d, rfl, gr, gr2, hps, lps, hk, hx, q⟩ := h
    refine ⟨_, (pss_cons (ps_set (i := 5) sc_is_over.nd rfl (.inl rfl) (pe_callTy (tupK (K := K) rfl) rfl B.tuple (by decide +kernel) (pa_cons (pe_callB L2.cr_sortedI rfl B.sorted (by decide +kernel) (pa_cons (pe_lc (own := [("place", 6)]) (g := gName 6) (tt := tYes) rfl sc_is_over.nd (piT (K := K) rfl (pe_ix (ixT (K := K) rfl) (fldK (K := K) rfl (pv 0) rfl) (pv 3) (fun _ _ => rfl))) (blkOk_by (N := n_is_over) (sc := defScope s_is_over) (by decide +kernel)) (fun _ _ _ _ _ => (pg_name (i := 6) sc_is_over.nd rfl (.inl rfl))) (fun _ _ _ _ _ => pts_nil) (fun _ _ _ _ _ => (pe_ix (ixT (K := K) rfl) (pv 2) (pv 6) (fun _ _ => rfl)))) pa_nil)) pa_nil)))
  (pss_cons (ps_if (pt_cmpR op_eq (pe_ix (ixT (K := K) rfl) (pv 5) pe_int (fun _ _ => rfl)) (pe_ix (ixT (K := K) rfl) (pv 5) pe_int (fun _ _ => rfl)) (nomark _)) (pss_one (ps_ret (pe_cmpR op_isN (pv 4) pe_non (nomark _)))) pss_nil)
  (pss_one (ps_ret (pe_and (pe_h h_is_whole_graphs hr pass0 (pa_cons (pv 4) pa_nil)) (pe_and (pe_chain op_le op_lt pe_int (pv 4) (pe_callB (lenK (K := K) rfl) rfl B.len PySem.boot_len (pa_cons (fldK (K := K) rfl (pv 1) rfl) pa_nil))) (pe_one (pe_cmpR (op_eqD hr.units) (pe_ix (ixT (K := K) rfl) (fldK (K := K) rfl (pv 1) rfl) (pv 4) (fun _ _ => rfl)) (pv 5) (nomark _))))))))), ?_⟩
    obtain ⟨⟨kd, dx, eT, vs, hg, heT, hvs⟩, good, hn1, hn64, he4, _⟩ := id gr
    obtain ⟨⟨kd2, dx2, eT2, vs2, hg2, heT2, hvs2⟩, good2, hm1, hm64, he42, _⟩ := id gr2
    obtain ⟨t, e1, e2⟩ := hvs.get hk
    have ek : es.getD k (0, 0) = es[k] := by rw [List.getD_eq_getElem?_getD, List.getElem?_eq_getElem hk]; rfl
    rw [ek] at q
    obtain ⟨b1, b2⟩ := good.1 _ (List.getElem_mem hk)
    generalize es[k] = e at e2 q b1 b2
    obtain ⟨u, v⟩ := e
    have b1 : u < v := b1
    have b2 : v < n := b2
    have hu : (ps.map nV)[u]? = some (nV (ps.getD u 0)) := by
      rw [List.getElem?_map, List.getD_eq_getElem?_getD, List.getElem?_eq_getElem (show u < ps.length by omega)]; rfl
    have hv : (ps.map nV)[v]? = some (nV (ps.getD v 0)) := by
      rw [List.getElem?_map, List.getD_eq_getElem?_getD, List.getElem?_eq_getElem (show v < ps.length by omega)]; rfl
    refine ⟨_, rfl, g, C, dx, _, _, rfl, hg, G.cls, G.edges, rfl, _, rfl, _, _, k, .ref t, rfl, rfl, SqT.of heT, atI_nat e1, t, rfl, ⟨_, SqT.of e2⟩, fun L nL => ?_⟩
    refine lc_tup (K := K) (a := t) (xs := [nV u, nV v]) (fun i H2 => Same H H2 ∧ H2 L = some (.lst (([nV (ps.getD u 0), nV (ps.getD v 0)]).take i))) ⟨same_upd nL, upd_same⟩ (fun i H2 _ p => SqT.of (p.1 _ _ e2)) ?_ ?_
    · rintro i x H2 hx2 ⟨sm, hL⟩
      refine ⟨rfl, yes_ ?_⟩
      match i, hx2 with
      | 0, hx2 =>
        cases hx2
        exact ⟨_, rfl, _, rfl, _, _, u, _, rfl, rfl, Same.seqT sm hps, atI_nat hu, _, hL, size_lt (by show 0 < 100000; decide), same_mut sm nL, by rw [upd_same]; rfl⟩
      | 1, hx2 =>
        cases hx2
        exact ⟨_, rfl, _, rfl, _, _, v, _, rfl, rfl, Same.seqT sm hps, atI_nat hv, _, hL, size_lt (by show 1 < 100000; decide), same_mut sm nL, by rw [upd_same]; rfl⟩
      | i + 2, hx2 => cases hx2
    rintro H2 ⟨sm, hL⟩
    generalize hA : ps.getD u 0 = A' at hL
    generalize hB : ps.getD v 0 = B' at hL
    have hL : H2 L = some (.lst ([(A' : Int), (B' : Int)].map V.int)) := hL
    refine ⟨L, _, rfl, SqL.of hL, fun ns L2 hp hs nL2 => ?_⟩
    have ens := sorted_two hp hs
    subst ens
    have s2 : Same H2 (upd H2 L2 (.lst ([min (A' : Int) B', max (A' : Int) B'].map V.int))) := same_upd nL2
    refine ⟨L2, _, rfl, .inl ⟨SqL.of upd_same, fun T nT => ?_⟩⟩
    have s3 : Same (upd H2 L2 (.lst ([min (A' : Int) B', max (A' : Int) B'].map V.int))) (upd (upd H2 L2 (.lst ([min (A' : Int) B', max (A' : Int) B'].map V.int))) T (.tup ([min (A' : Int) B', max (A' : Int) B'].map V.int))) := same_upd nT
    have hT : (upd (upd H2 L2 (.lst ([min (A' : Int) B', max (A' : Int) B'].map V.int))) T (.tup ([min (A' : Int) B', max (A' : Int) B'].map V.int))) T = some (.tup [nV (min A' B'), nV (max A' B')]) := by
      rw [upd_same]
      show some (HO.tup [V.int (min (A' : Int) B'), V.int (max (A' : Int) B')]) = _
      congr 3
      · congr 1; omega
      · congr 2; omega
    have sH := (sm.trans s2).trans s3
    generalize upd (upd H2 L2 (.lst ([min (A' : Int) B', max (A' : Int) B'].map V.int))) T (.tup ([min (A' : Int) B', max (A' : Int) B'].map V.int)) = H3 at s3 hT sH ⊢
    have es : sidesOf ps (u, v) = (min A' B', max A' B') := by
      unfold sidesOf
      rw [hA, hB]
    rw [es] at q
    have q := q H3 sH
    unfold isOv at q
    refine ⟨_, rfl, _, _, 0, _, rfl, rfl, SqT.of hT, atI_nat (j := 0) rfl, _, rfl, _, _, 1, _, rfl, rfl, SqT.of hT, atI_nat (j := 1) rfl, rfl, _, rfl, ifD (fun he => ?_) (fun ne => ?_)⟩
    · have he : min A' B' = max A' B' := by injection he with he; omega
      rw [if_pos he] at q
      refine ⟨_, rfl, rfl, ?_⟩
      cases hx <;> exact q
    · have ne : ¬ min A' B' = max A' B' := fun z => ne (by rw [z])
      rw [if_neg ne] at q
      refine ⟨_, rfl, x, d, rfl, Dp.same sH hx, _, rfl, ?_⟩
      cases hx with
      | int z =>
        refine iteT ⟨_, rfl, _, _, rfl, rfl, _, rfl, ifD (fun h0 => ?_) (fun h0 => ?_)⟩
        · have hg3 := sH _ _ hg2
          have heT3 := sH _ _ heT2
          refine ⟨_, rfl, gg, C, dx2, _, _, rfl, hg3, G.cls, G.edges, rfl, _, vs2.length, rfl, .inr ⟨_, SqT.of heT3, rfl⟩, _, _, rfl, rfl, _, rfl, ifD (fun h1 => ?_) (fun h1 => ?_)⟩
          · have lv2 := hvs2.len
            have hz : z.toNat < ges.length := by omega
            obtain ⟨t2, a1, a2⟩ := hvs2.get hz
            refine ⟨_, rfl, gg, C, dx2, _, _, rfl, hg3, G.cls, G.edges, rfl, _, rfl, _, _, z, .ref t2, rfl, rfl, SqT.of heT3, atI_int h0 a1, _, rfl, ?_⟩
            refine ⟨.tuple [.int (ges[z.toNat].1 : Nat), .int (ges[z.toNat].2 : Nat)], .tuple [.int ((min A' B' : Nat) : Int), .int ((max A' B' : Nat) : Int)], .tup (SqT.of (sH _ _ a2)) (.cons (.int _) (.cons (.int _) .nil)), .tup (SqT.of hT) (.cons (.int _) (.cons (.int _) .nil)), shaped_pair _ _, shaped_pair _ _, ?_⟩
            rw [eqv_pair]
            have q : Q (.bl (decide (0 ≤ z) && (decide (z < (ges.length : Int)) && decide (ges.getD z.toNat (0, 0) = (min A' B', max A' B'))))) H3 := q
            rw [decide_eq_true h0, decide_eq_true (show z < (ges.length : Int) by omega), Bool.true_and, Bool.true_and, List.getD_eq_getElem?_getD, List.getElem?_eq_getElem hz] at q
            exact q
          · have lv2 := hvs2.len
            have q : Q (.bl (decide (0 ≤ z) && (decide (z < (ges.length : Int)) && decide (ges.getD z.toNat (0, 0) = (min A' B', max A' B'))))) H3 := q
            rw [decide_eq_false (show ¬ z < (ges.length : Int) by omega), Bool.false_and, Bool.and_false] at q
            exact q
        · have q : Q (.bl (decide (0 ≤ z) && (decide (z < (ges.length : Int)) && decide (ges.getD z.toNat (0, 0) = (min A' B', max A' B'))))) H3 := q
          rw [decide_eq_false h0, Bool.false_and] at q
          exact ⟨_, rfl, iteF q⟩
      | non => exact iteF q
      | bl b => exact iteF q
      | str y => exact iteF q
      | lst _ _ => exact iteF q
      | tup _ _ => exact iteF q
def spTE (K : PySem.W.Frag) (C CB : Addr) : Sp := fun vs H Q E => ∃ (g gg pT : Addr) (n gn : Nat) (es ges : List Pr) (ps : List Nat) (v : V) (d : PyData), vs = [.ref g, .ref gg, .ref pT, v] ∧ Gk H C g n es ∧ Gk H C gg gn ges ∧ SqT K H pT (ps.map nV) ∧ ps.length = n ∧ ArgD K H v d ∧
  (∀ (H' : Hp) (l : Addr), Same H H' → faultE es ges ps d = none → SqT K H' l ((imOf d).map optV) → Q (.ref l) H') ∧ (∀ (H' : Hp) (l : Addr) (num : V), Same H H' → H l = none → faultE es ges ps d = some num → xRN H' l "edges" num → E (.ref CB) (some l) H')
theorem ok_told_edges (D : DefAt K mg "told_edges" "told_edges" s_told_edges) (B : Bt mg) (G : GraphC K C) (T : SupRN.SupTxt P K mg "BadGraphMap" CB fB) (h_is_over : Has P w K mg base CX0 2 "is_over" p_is_over (spOv K C)) :
    Has P w K mg base (L2.CX P w) 3 "told_edges" p_told_edges (spTE K C CB) := by
  refine has_ofX D sc_told_edges (fun _ _ _ _ _ _ us hl => match us, hl with | [_, _, _, _], _ => rfl) (fun vs H Q E h => ?_) (fun f cdv A outer s H vs Q E hr h => ?_)
  · obtain ⟨g, gg, pT, n, gn, es, ges, ps, v, d, rfl, _⟩ := h
    rfl
  · obtain ⟨g, gg, pT, n, gn, es, ges, ps, v, d, rfl, gr, gr2, hps, lps, hv, q, qe⟩ := h
    have tk : Takes (cxOf (L2.CX P w) P w K mg base n_told_edges "told_edges" (defScope s_told_edges) f cdv A outer s H E) (fun cls d _ H => E cls d H) := takes_of rfl rfl rfl rfl
    refine ⟨_, (pss_cons (ps_if (PW.pt (pw_or (pt_not (pt_val (pe_callB (isiTK (K := K) rfl) rfl B.isinstance (by decide +kernel) (pa_cons (pv 3) (pa_cons (pe_tup (pa_cons (pe_bltn (v := .ty "tuple") (u := .type "tuple") rfl B.tuple (by decide +kernel) rfl) (pa_cons (pe_bltn (v := .ty "list") (u := .type "list") rfl B.list (by decide +kernel) rfl) pa_nil))) pa_nil))))) (pw_or1 (pt_cmpR op_ne (pe_callB (lenK (K := K) rfl) rfl B.len PySem.boot_len (pa_cons (pv 3) pa_nil)) (pe_callB (lenK (K := K) rfl) rfl B.len PySem.boot_len (pa_cons (fldK (K := K) rfl (pv 0) rfl) pa_nil)) (nomark _))))) (pss_one (ps_raiseSupRN rfl T hr tk (pa_cons pe_str (pa_cons pe_non pa_nil)))) pss_nil)
  (pss_cons (ps_for PassesOwn.leaving rfl (pi_enumR (K := K) rfl rfl B.enumerate (pa_cons (pv 3) pa_nil)) (pgT (K := K) (n := 2) rfl rfl (pgs_cons (pg_name (i := 4) sc_told_edges.nd rfl (.inl rfl)) (pgs_cons (pg_name (i := 5) sc_told_edges.nd rfl (.inl rfl)) pgs_nil))) (pss_one (ps_if (pt_not (pt_val (pe_h h_is_over hr pass0 (pa_cons (pv 0) (pa_cons (pv 1) (pa_cons (pv 2) (pa_cons (pv 4) (pa_cons (pv 5) pa_nil)))))))) (pss_one (ps_raiseSupRN rfl T hr tk (pa_cons pe_str (pa_cons (pv 4) pa_nil)))) pss_nil)))
  (pss_one (ps_ret (pe_callTy (tupK (K := K) rfl) rfl B.tuple (by decide +kernel) (pa_cons (pv 3) pa_nil)))))), ?_⟩
    obtain ⟨⟨kd, dx, eT, vs, hg, heT, hvs⟩, good, hn1, hn64, he4, _⟩ := id gr
    have lvs := hvs.len
    refine ⟨_, rfl, by show 2 ≤ sizeLine; decide, fun tp ntp => ?_⟩
    have s1 : Same H (upd H tp (.tup [.ty "tuple", .ty "list"])) := same_upd ntp
    have htp : (upd H tp (.tup [.ty "tuple", .ty "list"])) tp = some (.tup [.ty "tuple", .ty "list"]) := upd_same
    generalize upd H tp (.tup [.ty "tuple", .ty "list"]) = H1 at s1 htp
    have hg1 := s1 _ _ hg
    have heT1 := s1 _ _ heT
    have xx : ∀ (num : V) (H2 : Hp), faultE es ges ps d = some num → Same H H2 → ∀ l, H2 l = none → E (.ref CB) (some l) (upd H2 l (.xd [("reason", .str "edges"), ("number", num)])) := fun num H2 e sm l nl =>
      qe _ l num (sm.trans (same_upd nl)) (sm.free nl) e upd_same
    rcases argD_cases hv with ⟨a, xs, ds, e, hrow, hd, hrd⟩ | ⟨hty, hsq, hrd⟩
    · subst e
      have hrow1 := hrow.imp s1.seq (Same.seqT s1)
      obtain ⟨d0, ht, hs⟩ := row_tyM hrow1
      have lx := DpAll.len hd
      refine ⟨_, tp, _, _, _, isSeqD d0, rfl, htp, .cons (.ty _) (.cons (.ty _) .nil), ht, kt_tl d0, _, rfl, ?_⟩
      rw [hs]
      refine iteF ⟨_, rfl, _, _, rfl, row_lenM hrow1, _, rfl, g, C, dx, _, _, rfl, hg1, G.cls, G.edges, rfl, ?_⟩
      refine ⟨_, vs.length, rfl, .inr ⟨_, SqT.of heT1, rfl⟩, rfl, _, rfl, ifN (fun ne => ?_) fun eq => ?_⟩
      · refine ⟨_, _, rfl, xx _ _ ?_ s1⟩
        unfold faultE
        rw [hrd]
        exact if_neg fun z => ne (congrArg V.int (by omega))
      have eq : ds.length = es.length := by injection eq with eq; omega
      refine ⟨_, rfl, a, rfl, ?_⟩
      refine for_enR (K := K) (a := a) (xs := xs) (H0 := H) hrow (fun i σ H' => ∃ (y z : Option V), σ = [some (.ref g), some (.ref gg), some (.ref pT), some (.ref a), y, z] ∧ Same H H' ∧ ∀ j, j < i → isOv ges (sidesOf ps (es.getD j (0, 0))) (ds.getD j .none) = true) ?_ ?_ ?_ ?_
      · exact ⟨_, _, rfl, s1, fun j h => absurd h (Nat.not_lt_zero _)⟩
      · rintro i σ' H' ⟨_, _, _, sm, _⟩ o ho
        exact sm _ _ ho
      · rintro i x T0 σ' H' hx ⟨y, z, rfl, sm, hj⟩ nT
        have hi : i < ds.length := by rw [← lx]; exact (List.getElem?_eq_some_iff.mp hx).1
        obtain ⟨x', e1, dd⟩ := DpAll.get hd hi
        rw [hx] at e1
        obtain rfl := Option.some.inj e1
        have sT : Same H' (upd H' T0 (.tup [.int (i : Nat), x])) := same_upd nT
        refine ⟨T0, _, rfl, SqT.of upd_same, rfl, _, _, rfl, _, _, rfl, rfl, ?_⟩
        have eD : ds.getD i .none = ds[i] := by rw [List.getD_eq_getElem?_getD, List.getElem?_eq_getElem hi]; rfl
        have s3 := sm.trans sT
        refine ⟨_, rfl, _, rfl, _, rfl, _, rfl, _, rfl, g, gg, pT, n, gn, i, es, ges, ps, x, ds[i], rfl, gr.same s3, gr2.same s3, Same.seqT s3 hps, lps, by omega, Dp.same s3 dd, fun H3 sm3 => ?_⟩
        have s4 := s3.trans sm3
        refine ⟨_, rfl, ?_⟩
        cases hw : isOv ges (sidesOf ps (es.getD i (0, 0))) ds[i] with
        | true =>
          refine iteF ⟨_, _, rfl, s4, fun j hjl => ?_⟩
          by_cases c : j < i
          · exact hj j c
          · have : j = i := by omega
            subst this
            rw [eD]; exact hw
        | false =>
          refine iteT ⟨_, rfl, _, _, rfl, xx _ _ ?_ s4⟩
          unfold faultE
          rw [hrd]
          show (if ds.length = es.length then _ else _) = _
          rw [if_pos eq, fbad_some (p := fun k => isOv ges (sidesOf ps (es.getD k (0, 0))) (ds.getD k .none)) (by omega) hj (by rw [eD]; exact hw)]; rfl
      · rintro σ' H' ⟨y, z, rfl, sm, hj⟩
        have hf : faultE es ges ps d = none := by
          unfold faultE
          rw [hrd]
          show (if ds.length = es.length then _ else _) = _
          rw [if_pos eq, fbad_none (p := fun k => isOv ges (sidesOf ps (es.getD k (0, 0))) (ds.getD k .none)) (fun j hj' => hj j (by omega))]; rfl
        obtain ⟨ds', hr', eds, _, _⟩ := faultE_none hf
        rw [hrd] at hr'
        cases hr'
        have exs : xs = (imOf d).map optV := dpAll_opts (by rw [← eds]; exact hd)
        subst exs
        rcases hrow with hrow | hrow
        · refine ⟨_, rfl, a, _, rfl, .inl ⟨sm.seq hrow, fun l nl => ?_⟩⟩
          exact q _ l (sm.trans (same_upd nl)) hf (SqT.of upd_same)
        · exact ⟨_, rfl, a, _, rfl, .inr ⟨Same.seqT sm hrow, q _ a sm hf (Same.seqT sm hrow)⟩⟩
    · refine ⟨_, tp, _, _, _, isSeqD d, rfl, htp, .cons (.ty _) (.cons (.ty _) .nil), tyx_same s1 hty, kt_tl d, _, rfl, ?_⟩
      rw [hsq]
      exact iteT ⟨_, _, rfl, xx _ _ (by unfold faultE; rw [hrd]) s1⟩
end
end G3

set_option Elab.async false
set_option linter.all false
set_option maxRecDepth 100000
set_option maxHeartbeats 2000000
namespace G3
open PySem PySem.Spec PyProof.Rows L2
/-! ## counts in dicts of ints -/
abbrev entN (e : Pr) : L2.Key × V := (Sum.inl (e.1 : Int), nV e.2)
def toI (e : Pr) : Int × Int := ((e.1 : Int), (e.2 : Int))
theorem map_entN (ks : List Pr) : ks.map entN = (ks.map toI).map L2.DX.entI := by rw [List.map_map]; rfl
def putN (ks : List Pr) (u v : Nat) : List Pr := if ks.any (fun e => decide (e.1 = u)) then ks.map (fun e => if e.1 = u then (e.1, v) else e) else ks ++ [(u, v)]
theorem inl_nat {a b : Nat} : (Sum.inl (a : Int) : L2.Key) = Sum.inl (b : Int) ↔ a = b := ⟨fun h => by injection h with h; omega, fun h => by rw [h]⟩
theorem putK_N (ks : List Pr) (u v : Nat) : putK (ks.map entN) (Sum.inl (u : Int)) (nV v) = (putN ks u v).map entN := by
  unfold putK putN
  have e : ((ks.map entN).any fun kv => decide (kv.1 = Sum.inl (u : Int))) = ks.any (fun e => decide (e.1 = u)) := by
    rw [List.any_map]
    congr 1
    funext x
    exact decide_eq_decide.mpr inl_nat
  rw [e]
  by_cases c : ks.any (fun e => decide (e.1 = u)) = true
  · rw [if_pos c, if_pos c, List.map_map, List.map_map]
    refine List.map_congr_left fun x _ => ?_
    show (if (entN x).1 = Sum.inl (u : Int) then ((entN x).1, nV v) else entN x) = entN (if x.1 = u then (x.1, v) else x)
    by_cases d : x.1 = u
    · rw [if_pos d, if_pos (inl_nat.mpr d)]
    · rw [if_neg d, if_neg (fun z => d (inl_nat.mp z))]
  · rw [if_neg c, if_neg c, List.map_append]; rfl
/-- the dict ks tells just the counts m that are not 0 -/
def DR (m : Nat → Nat) (ks : List Pr) : Prop := (ks.map (·.1)).Nodup ∧ ∀ u v, (u, v) ∈ ks ↔ v = m u ∧ 0 < m u
theorem val_in {u v : Nat} : ∀ {ks : List Pr}, (ks.map (·.1)).Nodup → (u, v) ∈ ks → valV (ks.map entN) (Sum.inl (u : Int)) = some (nV v)
  | [], _, h => nomatch h
  | k :: ks, hn, h => by
    rw [List.map_cons] at hn ⊢
    obtain ⟨h1, h2⟩ := List.nodup_cons.mp hn
    rcases List.mem_cons.mp h with e | h
    · rw [valV_pos (show (entN k).1 = _ by rw [← e]), ← e]
    · have : k.1 ≠ u := fun z => h1 (List.mem_map.mpr ⟨_, h, z.symm⟩)
      rw [valV_neg (fun z => this (inl_nat.mp z))]
      exact val_in h2 h
theorem val_out {u : Nat} : ∀ {ks : List Pr}, (∀ v, (u, v) ∉ ks) → valV (ks.map entN) (Sum.inl (u : Int)) = none
  | [], _ => rfl
  | k :: ks, h => by
    rw [List.map_cons]
    have : k.1 ≠ u := fun z => h k.2 (by rw [← z]; exact List.mem_cons_self ..)
    rw [valV_neg (fun z => this (inl_nat.mp z))]
    exact val_out fun v hv => h v (List.mem_cons_of_mem _ hv)
theorem DR.get {m : Nat → Nat} {ks : List Pr} (h : DR m ks) (u : Nat) : (valV (ks.map entN) (Sum.inl (u : Int))).getD (.int 0) = nV (m u) := by
  by_cases c : 0 < m u
  · rw [val_in h.1 ((h.2 u (m u)).mpr ⟨rfl, c⟩)]; rfl
  · rw [val_out fun v hv => c ((h.2 u v).mp hv).2]
    have : m u = 0 := by omega
    rw [this]; rfl
theorem DR.nil : DR (fun _ => 0) [] := ⟨List.nodup_nil, fun u v => ⟨fun h => (nomatch h), fun h => absurd h.2 (Nat.lt_irrefl 0)⟩⟩
/-- one more of u -/
def bump (m : Nat → Nat) (u x : Nat) : Nat := if x = u then m u + 1 else m x
theorem bump_eq {m : Nat → Nat} {u x : Nat} (h : x = u) : bump m u x = m u + 1 := if_pos h
theorem bump_ne {m : Nat → Nat} {u x : Nat} (h : ¬ x = u) : bump m u x = m x := if_neg h
theorem DR.put {m : Nat → Nat} {ks : List Pr} (h : DR m ks) (u : Nat) : DR (bump m u) (putN ks u (m u + 1)) := by
  unfold putN
  by_cases c : ks.any (fun e => decide (e.1 = u)) = true
  · rw [if_pos c]
    have ek : (ks.map fun e => if e.1 = u then (e.1, m u + 1) else e).map (·.1) = ks.map (·.1) := by
      rw [List.map_map]
      refine List.map_congr_left fun x _ => ?_
      show (if x.1 = u then (x.1, m u + 1) else x).1 = x.1
      split <;> rfl
    refine ⟨ek ▸ h.1, fun x v => ⟨fun hm => ?_, fun ⟨e1, e2⟩ => ?_⟩⟩
    · obtain ⟨y, hy, e⟩ := List.mem_map.mp hm
      by_cases d : y.1 = u
      · rw [if_pos d] at e
        cases e
        rw [bump_eq d]
        exact ⟨rfl, Nat.succ_pos _⟩
      · rw [if_neg d] at e
        subst e
        rw [bump_ne d]
        exact (h.2 _ _).mp hy
    · obtain ⟨y, hy, d⟩ := List.any_eq_true.mp c
      have d : y.1 = u := of_decide_eq_true d
      by_cases dx : x = u
      · rw [bump_eq dx] at e1
        refine List.mem_map.mpr ⟨y, hy, ?_⟩
        rw [if_pos d, d, e1, dx]
      · rw [bump_ne dx] at e1 e2
        exact List.mem_map.mpr ⟨(x, v), (h.2 x v).mpr ⟨e1, e2⟩, by rw [if_neg dx]⟩
  · rw [if_neg c]
    have nu : ∀ v, (u, v) ∉ ks := fun v hv => c (List.any_eq_true.mpr ⟨_, hv, decide_eq_true rfl⟩)
    have m0 : m u = 0 := by
      by_cases d : 0 < m u
      · exact absurd ((h.2 u (m u)).mpr ⟨rfl, d⟩) (nu _)
      · omega
    refine ⟨?_, fun x v => ⟨fun hm => ?_, fun ⟨e1, e2⟩ => ?_⟩⟩
    · rw [List.map_append]
      refine List.nodup_append.mpr ⟨h.1, List.nodup_cons.mpr ⟨List.not_mem_nil, List.nodup_nil⟩, fun a ha b hb e => ?_⟩
      rw [List.mem_singleton.mp hb] at e
      obtain ⟨y, hy, z⟩ := List.mem_map.mp ha
      exact nu y.2 (by rw [← (show y.1 = u from z.trans e)]; exact hy)
    · rcases List.mem_append.mp hm with hm | hm
      · have := (h.2 x v).mp hm
        have dx : x ≠ u := fun z => nu v (z ▸ hm)
        rw [bump_ne dx]; exact this
      · cases List.mem_singleton.mp hm
        rw [bump_eq rfl]; exact ⟨rfl, Nat.succ_pos _⟩
    · by_cases dx : x = u
      · rw [bump_eq dx] at e1
        exact List.mem_append.mpr (.inr (List.mem_singleton.mpr (by rw [e1, dx])))
      · rw [bump_ne dx] at e1 e2
        exact List.mem_append.mpr (.inl ((h.2 x v).mpr ⟨e1, e2⟩))
theorem DR.len {m : Nat → Nat} {ks : List Pr} (h : DR m ks) {n : Nat} (hm : ∀ u, 0 < m u → u < n) : ks.length ≤ n := by
  have : ∀ (l k : List Nat), l.Nodup → (∀ x ∈ l, x ∈ k) → l.length ≤ k.length := by
    intro l
    induction l with
    | nil => intro k _ _; exact Nat.zero_le _
    | cons a t ih =>
      intro k hn hs
      obtain ⟨h1, h2⟩ := List.nodup_cons.mp hn
      have ha := hs a (List.mem_cons_self ..)
      have := ih (k.erase a) h2 fun x hx => (List.mem_erase_of_ne (a := x) (b := a) (fun z => h1 (by rw [← z]; exact hx))).mpr (hs x (List.mem_cons_of_mem _ hx))
      rw [List.length_erase_of_mem ha] at this
      have : 0 < k.length := List.length_pos_of_mem ha
      rw [List.length_cons]; omega
  have := this (ks.map (·.1)) (List.range n) h.1 fun x hx => by
    obtain ⟨y, hy, rfl⟩ := List.mem_map.mp hx
    exact List.mem_range.mpr (hm _ ((h.2 y.1 y.2).mp hy).2)
  rwa [List.length_map, List.length_range] at this
/-- how many edges between two places -/
def mult (es : List Pr) (i u : Nat) : Nat := es.count (i, u) + es.count (u, i)
theorem mult_app {es : List Pr} {e : Pr} {i u : Nat} : mult (es ++ [e]) i u = mult es i u + ((if e = (i, u) then 1 else 0) + (if e = (u, i) then 1 else 0)) := by
  unfold mult
  rw [List.count_append, List.count_append, List.count_singleton, List.count_singleton]
  have h1 : (if (e == (i, u)) = true then 1 else 0) = (if e = (i, u) then 1 else 0) := by simp
  have h2 : (if (e == (u, i)) = true then 1 else 0) = (if e = (u, i) then 1 else 0) := by simp
  rw [h1, h2]; omega
theorem mult_pos {es : List Pr} {i u n : Nat} (h : ∀ e ∈ es, e.1 < n ∧ e.2 < n) (hm : 0 < mult es i u) : u < n := by
  unfold mult at hm
  by_cases c : 0 < es.count (i, u)
  · exact (h _ (List.count_pos_iff.mp c)).2
  · exact (h _ (List.count_pos_iff.mp (by omega : 0 < es.count (u, i)))).1
/-- the counts in the order of their places -/
def IsLine (m : Nat → Nat) (l : List Pr) : Prop := (l.map (·.1)).Pairwise (· < ·) ∧ ∀ u v, (u, v) ∈ l ↔ v = m u ∧ 0 < m u
end G3

set_option Elab.async false
set_option linter.all false
set_option maxRecDepth 100000
set_option maxHeartbeats 2000000
namespace G3
open PySem PySem.Spec PyProof.Rows L2
theorem DR.congr {m m' : Nat → Nat} {ks : List Pr} (h : DR m ks) (e : ∀ u, m u = m' u) : DR m' ks := ⟨h.1, fun u v => by rw [← e u]; exact h.2 u v⟩
theorem dput_n {H : Hp} {a : Addr} {ks : List Pr} {u k : Nat} {y v : V} (h : H a = some (.dK (ks.map entN))) (hl : ks.length ≤ 1000) (hy : y = nV u) (hv : v = nV k) : DPut H a y v (upd H a (.dK ((putN ks u k).map entN))) := by
  subst hy; subst hv
  rw [← putK_N]
  exact DPut.k (k := Sum.inl (u : Int)) h (size_lt (by rw [List.length_map]; omega))
theorem walk_zipT {K : PySem.W.Frag} {a b : Addr} {xs ys : List V} {n : Nat} (hn : n = min xs.length ys.length) : Walk (RZ.ItzT K a b) n (fun H => SqT K H a xs ∧ SqT K H b ys) (YPair (fun i => xs[i]?) (fun i => ys[i]?)) := by
  subst hn
  refine ⟨fun i _ hi q => ?_, fun _ q => ⟨xs, ys, q.1, q.2, by omega⟩, fun i H v H' _ q y => ?_⟩
  · have h1 : i < xs.length := by omega
    have h2 : i < ys.length := by omega
    exact ⟨xs, ys, xs[i], ys[i], q.1, q.2, by simp [h1], by simp [h2]⟩
  · obtain ⟨T, x, z, h1, h2, h3, h4, h5⟩ := y
    exact ⟨T, x, z, h1, h2, h3, h4 xs q.1, h5 ys q.2⟩
theorem pi_zipK {X : Cx} {K : PySem.W.Frag} (h : X.K = K) {e e2 : Expr} {ta : TA} {p pos tpos : Pos} {elts : List Expr} {kk : Nat} (hg : Gl X "zip") (hm : X.mg "zip" = none) (ha : PA X [e, e2] ta)
    (hs : starEach [e, e2] X.env = (false, eval e X.env) :: starEach [e2] X.env := by rfl) (hpl : (backTo pos (starEach [e2] X.env)).any (·.1) = false := by rfl) :
    PI X (.Tuple elts kk tpos) (.Call (.Name "zip" p) [e, e2] [] pos) (RZ.iZipA K ta) := by
  subst h
  exact RZ.pi_zipA hg hm ha hs hpl
theorem walk_enumT {K : PySem.W.Frag} {a : Addr} {xs : List V} : Walk (Ieu K a) xs.length (fun H => SqT K H a xs) (YPair (fun i => some (.int (i : Nat))) (fun i => xs[i]?)) := by
  refine ⟨fun i _ hi q => ⟨xs, xs[i], q, by simp [hi]⟩, fun _ q => ⟨xs, q, Nat.le_refl _⟩, fun i H v H' _ q y => ?_⟩
  obtain ⟨T, x, h1, h2, h3, h4⟩ := y
  exact ⟨T, .int (i : Nat), x, h1, h2, h3, rfl, h4 xs q⟩
theorem seqT_but {K : PySem.W.Frag} {H H' : Hp} {a : Addr} {xs : List V} (h : SqT K H a xs) (e : ∀ o, H a = some o → H' a = some o) : SqT K H' a xs := seqT_at e h
theorem filter_take {α : Type} {f : α → Bool} {l : List α} {i : Nat} {x : α} (h : l[i]? = some x) : (l.take (i + 1)).filter f = (l.take i).filter f ++ if f x = true then [x] else [] := by
  rw [List.take_add_one, h, List.filter_append]
  congr 1
  show [x].filter f = _
  rw [List.filter_cons]; rfl
theorem zip_take {α β : Type} : ∀ (l : List α) (k : List β) (i : Nat), (l.take i).zip (k.take i) = (l.zip k).take i
  | [], k, i => by simp
  | a :: l, [], i => by simp
  | a :: l, b :: k, 0 => rfl
  | a :: l, b :: k, i + 1 => by
    show (a, b) :: (l.take i).zip (k.take i) = (a, b) :: (l.zip k).take i
    rw [zip_take l k i]
theorem cntE_take {es : List Pr} {im : List (Option Nat)} {i a b : Nat} {o : Option Nat} (h1 : es[i]? = some (a, b)) (h2 : im[i]? = some o) (v k : Nat) :
    cntE (es.take (i + 1)) (im.take (i + 1)) v k = cntE (es.take i) (im.take i) v k + if (a = v ∨ b = v) ∧ o = some k then 1 else 0 := by
  unfold cntE
  have hz : (es.zip im)[i]? = some ((a, b), o) := by rw [List.getElem?_zip_eq_some]; exact ⟨h1, h2⟩
  rw [zip_take, zip_take, List.take_add_one, hz, List.countP_append]
  congr 1
  show [((a, b), o)].countP _ = _
  rw [List.countP_cons, List.countP_nil, Nat.zero_add]
  by_cases c : (a = v ∨ b = v) ∧ o = some k
  · rw [if_pos c, if_pos]
    obtain ⟨c1, c2⟩ := c
    rw [Bool.and_eq_true, Bool.or_eq_true, decide_eq_true_iff, decide_eq_true_iff, decide_eq_true_iff]
    exact ⟨c1, c2⟩
  · rw [if_neg c, if_neg]
    intro z
    rw [Bool.and_eq_true, Bool.or_eq_true, decide_eq_true_iff, decide_eq_true_iff, decide_eq_true_iff] at z
    exact c z
theorem cntE_pos {es : List Pr} {im : List (Option Nat)} {v k : Nat} (h : 0 < cntE es im v k) : some k ∈ im := by
  unfold cntE at h
  obtain ⟨p, hp, hb⟩ := List.countP_pos_iff.mp h
  rw [Bool.and_eq_true, decide_eq_true_iff] at hb
  obtain ⟨e, o⟩ := p
  have := (List.of_mem_zip hp).2
  have e2 : o = some k := hb.2
  rw [← e2]; exact this
section
variable {P : Program} {w : World} {K : PySem.W.Frag} {mg : Str → Option Value} {base : Heap} {C CB fB : Addr}
abbrev n_counted : List Str := ["graph", "edges", "found", "edge", "sides", "place"]
abbrev p_counted : List Str := ["graph", "edges"]
theorem sc_counted : FnScope n_counted p_counted (defScope s_counted) := ⟨rfl, rfl, rfl, by decide +kernel, rfl, by decide +kernel, by decide +kernel⟩
def spCnt (K : PySem.W.Frag) (C : Addr) : Sp := fun vs H Q _ => ∃ (g eT' : Addr) (n : Nat) (es : List Pr) (im : List (Option Nat)), vs = [.ref g, .ref eT'] ∧ Gk H C g n es ∧ SqT K H eT' (im.map optV) ∧ im.length = es.length ∧ (∀ k, some k ∈ im → k < 400) ∧
  ∀ (H' : Hp) (B0 : Addr) (as : List Addr) (ks : Nat → List Pr), Same H H' → as.length = n → Rows H' B0 as (fun v => .dK ((ks v).map entN)) → (∀ v, DR (cntE es im v) (ks v)) → Q (.ref B0) H'
theorem ok_counted (D : DefAt K mg "counted" "counted" s_counted) (B : Bt mg) (G : GraphC K C) : Has P w K mg base CX0 1 "counted" p_counted (spCnt K C) := by
  refine has_of D sc_counted (fun _ _ _ _ _ _ us hl => match us, hl with | [_, _], _ => rfl) (fun vs H Q E h => ?_) (fun f cdv A outer s H vs Q E hr h => ?_)
  · obtain ⟨g, eT', n, es, im, rfl, _⟩ := h
    rfl
  · obtain ⟨g, eT', n, es, im, rfl, gr, heT', lim, h400, q⟩ := h
    have hu : (cxOf CX0 P w K mg base n_counted "counted" (defScope s_counted) f cdv A outer s H E).nox.A.units + 1 < cLine := Nat.lt_of_le_of_lt (Nat.add_le_add_left (by decide : 1 ≤ 64) _) hr.units
    refine ⟨_, (pss_cons (ps_setLc (i := 2) (own := [("place", 5)]) (g := gName 5) (tt := tYes) rfl sc_counted.nd rfl rfl (sw_true rfl rfl rfl (by decide +kernel)) (pi_range1 rfl B.range (pa_cons (fldK (K := K) rfl (pv 0) rfl) pa_nil)) (blkOk_by (N := n_counted) (sc := defScope s_counted) (by decide +kernel)) (fun _ _ _ _ _ => (pg_name (i := 5) sc_counted.nd rfl (.inl rfl))) (fun _ _ _ _ _ => pts_nil) (fun _ _ _ _ _ => (pe_dnewK)))
  (pss_cons (ps_for PassesOwn.never rfl (pi_zipK (K := K) rfl rfl B.zip (pa_cons (pv 1) (pa_cons (fldK (K := K) rfl (pv 0) rfl) pa_nil))) (pgT (K := K) (n := 2) rfl rfl (pgs_cons (pg_name (i := 3) sc_counted.nd rfl (.inl rfl)) (pgs_cons (pg_name (i := 4) sc_counted.nd rfl (.inl rfl)) pgs_nil))) (pss_one (ps_if (pt_cmpR op_notN (pv 3) pe_non (nomark _)) (pss_one (ps_for PassesOwn.never rfl (piT (K := K) rfl (pv 4)) (pg_name (i := 5) sc_counted.nd rfl (.inl rfl)) (pss_one (ps_dput hu (pe_ix (ixL (K := K) rfl) (pv 2) (pv 5) (fun _ _ => rfl)) (pv 3) (pe_op op_add (pe_dget2 hu (pe_ix (ixL (K := K) rfl) (pv 2) (pv 5) (fun _ _ => rfl)) (pv 3) pe_int ⟨rfl, rfl, rfl, rfl⟩) pe_int) rfl)))) pss_nil)))
  (pss_one (ps_ret (pv 2))))), ?_⟩
    obtain ⟨⟨kd, dx, eT, vs, hg, heT, hvs⟩, good, hn1, hn64, he4, _⟩ := id gr
    have lvs := hvs.len
    refine ⟨_, rfl, g, C, dx, _, _, rfl, hg, G.cls, G.n, rfl, n, rfl, by omega, by omega, fun B0 nB => ?_⟩
    refine lc_range (lo := 0) (n := n) (fun i H2 => Same H H2 ∧ ∃ as, as.length = i ∧ Rows H2 B0 as (fun _ => .dK []) ∧ ∀ a ∈ as, H a = none) ⟨same_upd nB, [], rfl, Rows.nil, fun a h => nomatch h⟩ ?_ ?_
    · rintro i H2 hi ⟨sm, as, las, ro, fr⟩
      refine ⟨rfl, yes_ ?_⟩
      intro a na
      obtain ⟨p1, p2⟩ := ro.push (o := .dK []) na rfl
      refine ⟨_, p1, size_lt (by rw [List.length_map]; omega), same_mut (sm.trans (same_upd na)) nB, as ++ [a], by rw [List.length_append, las]; rfl, p2, fun x hx => ?_⟩
      rcases List.mem_append.mp hx with hx | hx
      · exact fr x hx
      · rw [List.mem_singleton.mp hx]; exact sm.free na
    rintro H2 ⟨sm2, as, las, ro, fr⟩
    have notAs : ∀ x o, H x = some o → ¬ x ∈ as := fun x o e z => by
      have := fr x z
      rw [e] at this; cases this
    refine ⟨_, rfl, _, rfl, g, C, dx, _, _, rfl, sm2 _ _ hg, G.cls, G.edges, rfl, ?_⟩
    have keepT : ∀ H3, But (· ∈ as) H2 H3 → SqT K H3 eT' (im.map optV) := fun H3 bt => seqT_at (fun o ho => bt _ _ (notAs _ _ ho) (sm2 _ _ ho)) heT'
    refine ⟨eT', eT, im.map optV, vs, rfl, .inr ⟨Same.seqT sm2 heT', SqT.of (sm2 _ _ heT), ?_⟩⟩
    refine for_it (walk_zipT (K := K) (a := eT') (b := eT) (xs := im.map optV) (ys := vs) (n := es.length) (by rw [List.length_map, lvs, lim, Nat.min_self])) (fun i σ H' => ∃ (y z t : Option V) (ks : Nat → List Pr), σ = [some (.ref g), some (.ref eT'), some (.ref B0), y, z, t] ∧ But (· ∈ as) H2 H' ∧ Rows H' B0 as (fun v => .dK ((ks v).map entN)) ∧ ∀ v, DR (cntE (es.take i) (im.take i) v) (ks v)) ?_ ?_ ?_ ?_
    · exact ⟨_, _, _, fun _ => [], rfl, But.refl, ro, fun v => DR.nil.congr fun u => rfl⟩
    · rintro i σ H' hi ⟨_, _, _, _, _, bt, _⟩
      exact ⟨keepT _ bt, SqT.of (bt _ _ (notAs _ _ heT) (sm2 _ _ heT))⟩
    · rintro i x σ H' H3 hi ⟨y, z, t, ks, rfl, bt, ro', hk⟩ ⟨T, x1, y1, rfl, nT, rfl, hx1, hy1⟩
      have hx1 : (im.map optV)[i]? = some x1 := hx1
      have hy1 : vs[i]? = some y1 := hy1
      rw [List.getElem?_map] at hx1
      obtain ⟨o, ho, rfl⟩ := Option.map_eq_some_iff.mp hx1
      obtain ⟨tt, e1, e2⟩ := hvs.get hi
      rw [hy1] at e1
      obtain rfl := Option.some.inj e1
      have hes : es[i]? = some es[i] := List.getElem?_eq_getElem hi
      obtain ⟨b1, b2⟩ := good.1 _ (List.getElem_mem hi)
      generalize es[i] = e at e2 b1 b2 hes
      obtain ⟨a, b⟩ := e
      have b1 : a < b := b1
      have b2 : b < n := b2
      have sT : Same H' (upd H' T (.tup [optV o, .ref tt])) := same_upd nT
      have hT : (upd H' T (.tup [optV o, .ref tt])) T = some (.tup [optV o, .ref tt]) := upd_same
      have ht : H' tt = some (.tup [nV a, nV b]) := bt _ _ (notAs _ _ e2) (sm2 _ _ e2)
      have ht3 := sT _ _ ht
      have ro3 := ro'.same sT
      have bt3 : But (· ∈ as) H2 (upd H' T (.tup [optV o, .ref tt])) := bt.trans (Same.but sT)
      generalize upd H' T (.tup [optV o, .ref tt]) = H3 at sT hT ht3 ro3 bt3 ⊢
      refine ⟨T, _, rfl, SqT.of hT, rfl, _, _, rfl, _, _, rfl, rfl, ?_⟩
      have step := fun v k => cntE_take hes ho v k
      cases o with
      | none =>
        refine ⟨_, rfl, rfl, _, rfl, iteF ?_⟩
        refine ⟨_, _, _, ks, rfl, bt3, ro3, fun v => (hk v).congr fun u => ?_⟩
        rw [step, if_neg (fun z => by cases z.2)]; rfl
      | some k0 =>
        have hk0 : k0 < 400 := h400 k0 (List.mem_of_getElem? ho)
        refine ⟨_, rfl, rfl, _, rfl, iteT ?_⟩
        refine ⟨_, rfl, tt, rfl, ⟨_, SqT.of ht3⟩, ?_⟩
        refine for_tup (K := K) (a := tt) (xs := [nV a, nV b]) (fun j σ H4 => ∃ (t : Option V) (ks' : Nat → List Pr), σ = [some (.ref g), some (.ref eT'), some (.ref B0), some (nV k0), some (.ref tt), t] ∧ But (· ∈ as) H3 H4 ∧ Rows H4 B0 as (fun v => .dK ((ks' v).map entN)) ∧ ∀ v, DR (fun k => cntE (es.take i) (im.take i) v k + if ((1 ≤ j ∧ a = v) ∨ (2 ≤ j ∧ b = v)) ∧ some k0 = some k then 1 else 0) (ks' v)) ?_ ?_ ?_ ?_
        · refine ⟨_, ks, rfl, But.refl, ro3, fun v => (hk v).congr fun u => ?_⟩
          rw [if_neg (fun z => by omega)]; rfl
        · rintro j σ H4 _ ⟨_, _, _, b4, _⟩
          refine SqT.of (b4 _ _ (fun z => ?_) ht3)
          exact notAs _ _ e2 z
        · rintro j x σ H4 hx ⟨t2, ks', rfl, b4, ro4, hk'⟩
          have hj : j < 2 := (List.getElem?_eq_some_iff.mp hx).1
          have hx : x = nV (if j = 0 then a else b) := by
            match j, hj with
            | 0, _ => cases hx; rfl
            | 1, _ => cases hx; rfl
          subst hx
          have lp : (if j = 0 then a else b) < as.length := by split <;> omega
          obtain ⟨p, hp⟩ : ∃ p, p = if j = 0 then a else b := ⟨_, rfl⟩
          rw [← hp] at lp ⊢
          have ha := (ro4.at lp).2
          have base0 : ∀ k, cntE (es.take i) (im.take i) p k + (if ((1 ≤ j ∧ a = p) ∨ (2 ≤ j ∧ b = p)) ∧ some k0 = some k then 1 else 0) = cntE (es.take i) (im.take i) p k := fun k => by
            rw [if_neg]
            · rfl
            · intro z
              split at hp <;> omega
          have hkp := (hk' p).congr base0
          have lks : (ks' p).length ≤ 400 := hkp.len fun u hu => h400 u (List.mem_of_mem_take (cntE_pos hu))
          refine ⟨_, rfl, _, rfl, _, _, p, .ref as[p], rfl, rfl, SqL.of ro4.1, atI_nat (rows_get lp), as[p], rfl, .inl ⟨_, .inl ha⟩, _, rfl, _, DGet.k (k := Sum.inl (k0 : Int)) ha, ?_⟩
          refine ⟨_, _, hkp.get k0, rfl, ?_⟩
          refine ⟨_, rfl, _, rfl, _, _, p, .ref as[p], rfl, rfl, SqL.of ro4.1, atI_nat (rows_get lp), _, rfl, as[p], _, rfl, dput_n (k := cntE (es.take i) (im.take i) p k0 + 1) ha (by omega) rfl rfl, ?_⟩
          have r1 := ro4.set (o := .dK ((putN (ks' p) k0 (cntE (es.take i) (im.take i) p k0 + 1)).map entN)) (List.getElem?_eq_getElem lp)
          have m1 : But (· ∈ as) H4 (upd H4 as[p] (.dK ((putN (ks' p) k0 (cntE (es.take i) (im.take i) p k0 + 1)).map entN))) := But.mut (X := (· ∈ as)) (List.getElem_mem lp)
          refine ⟨_, fun v => if v = p then putN (ks' p) k0 (cntE (es.take i) (im.take i) p k0 + 1) else ks' v, rfl, b4.trans m1, r1.to fun v hv => ?_, fun v => ?_⟩
          · show (if v = p then _ else _) = HO.dK ((if v = p then _ else _ : List Pr).map entN)
            split <;> rfl
          · show DR _ (if v = p then _ else _)
            by_cases c : v = p
            · rw [if_pos c]
              refine (hkp.put k0).congr fun u => ?_
              by_cases d : u = k0
              · subst d
                rw [bump_eq rfl, if_pos, c]
                refine ⟨?_, rfl⟩
                rw [c]
                split at hp <;> omega
              · rw [bump_ne d, if_neg, c]
                · rfl
                · intro z
                  have := Option.some.inj z.2
                  omega
            · rw [if_neg c]
              refine (hk' v).congr fun u => ?_
              congr 1
              have e : (((1 ≤ j ∧ a = v) ∨ (2 ≤ j ∧ b = v)) ∧ some k0 = some u) ↔ (((1 ≤ j + 1 ∧ a = v) ∨ (2 ≤ j + 1 ∧ b = v)) ∧ some k0 = some u) := by
                refine and_congr_left fun _ => ?_
                split at hp <;> omega
              by_cases d : ((1 ≤ j ∧ a = v) ∨ (2 ≤ j ∧ b = v)) ∧ some k0 = some u
              · rw [if_pos d, if_pos (e.mp d)]
              · rw [if_neg d, if_neg (fun z => d (e.mpr z))]
        · rintro σ H4 ⟨t2, ks', rfl, b4, ro4, hk'⟩
          refine ⟨_, _, _, ks', rfl, bt3.trans b4, ro4, fun v => (hk' v).congr fun u => ?_⟩
          rw [step]
          congr 1
          have e : (((1 ≤ [nV a, nV b].length ∧ a = v) ∨ (2 ≤ [nV a, nV b].length ∧ b = v)) ∧ some k0 = some u) ↔ ((a = v ∨ b = v) ∧ some k0 = some u) := by
            refine and_congr_left fun _ => ?_
            show ((1 ≤ 2 ∧ a = v) ∨ (2 ≤ 2 ∧ b = v)) ↔ _
            omega
          by_cases d : (a = v ∨ b = v) ∧ some k0 = some u
          · rw [if_pos d, if_pos (e.mpr d)]
          · rw [if_neg d, if_neg (fun z => d (e.mp z))]
    · rintro σ H3 ⟨y, z, t, ks, rfl, bt, ro', hk⟩
      rw [List.take_length, List.take_of_length_le (by omega)] at hk
      exact ⟨_, rfl, q H3 B0 as ks (bt.same sm2 fr) las ro' hk⟩
end
end G3

set_option Elab.async false
set_option linter.all false
set_option maxRecDepth 100000
set_option maxHeartbeats 2000000
namespace G3
open PySem PySem.Spec PyProof.Rows L2
/-- all alike just if the least is the greatest -/
theorem evB_iff {l : List Nat} {a b : Int} (ha : a ∈ l.map fun n : Nat => (n : Int)) (hmin : ∀ y ∈ l.map (fun n : Nat => (n : Int)), a ≤ y) (hb : b ∈ l.map fun n : Nat => (n : Int)) (hmax : ∀ y ∈ l.map (fun n : Nat => (n : Int)), y ≤ b) : evB l = true ↔ a = b := by
  obtain ⟨x, hx, rfl⟩ := List.mem_map.mp ha
  obtain ⟨y, hy, rfl⟩ := List.mem_map.mp hb
  unfold evB
  rw [List.all_eq_true]
  constructor
  · intro h
    have h1 := of_decide_eq_true (h x hx)
    have h2 := of_decide_eq_true (h y hy)
    omega
  · intro e z hz
    have e : x = y := by omega
    have hh : l.headD 0 ∈ l := by
      cases l with
      | nil => cases hx
      | cons a l => exact List.mem_cons_self ..
    have m1 := hmin _ (List.mem_map.mpr ⟨z, hz, rfl⟩)
    have m2 := hmax _ (List.mem_map.mpr ⟨z, hz, rfl⟩)
    have m3 := hmin _ (List.mem_map.mpr ⟨_, hh, rfl⟩)
    have m4 := hmax _ (List.mem_map.mpr ⟨_, hh, rfl⟩)
    exact decide_eq_true (by omega)
theorem want_ne {gn : Nat} {ges : List Pr} (good : Good gn ges) (h2 : 2 ≤ gn) {p : Nat} (hp : p < gn) : wantE ges p ≠ [] := by
  intro z
  have hno : ∀ e ∈ ges, e.1 ≠ p ∧ e.2 ≠ p := fun e he => by
    obtain ⟨k, hk, rfl⟩ := List.getElem_of_mem he
    have : k ∉ wantE ges p := by rw [z]; exact List.not_mem_nil
    unfold wantE at this
    rw [List.mem_filter, List.getD_eq_getElem?_getD, List.getElem?_eq_getElem hk] at this
    have hkr := List.mem_range.mpr hk
    constructor
    · intro e; exact this ⟨hkr, by rw [Bool.or_eq_true]; exact .inl (decide_eq_true e)⟩
    · intro e; exact this ⟨hkr, by rw [Bool.or_eq_true]; exact .inr (decide_eq_true e)⟩
  have key := good.2 (fun i => decide (i = p)) fun e he => by
    rw [decide_eq_false (hno e he).1, decide_eq_false (hno e he).2]
  have k1 := key p hp
  have k2 := key 1 (by omega)
  have k1 : true = decide (0 = p) := by rw [← decide_eq_true (rfl : p = p)]; exact k1
  have p0 : 0 = p := of_decide_eq_true k1.symm
  have k2 : decide (1 = p) = decide (0 = p) := k2
  rw [decide_eq_true p0] at k2
  have := of_decide_eq_true k2
  omega
section
variable {P : Program} {w : World} {K : PySem.W.Frag} {mg : Str → Option Value} {base : Heap} {C CB fB : Addr}
abbrev n_told_sheets : List Str := ["graph", "goal", "places", "edges", "wanted", "found", "place", "counts", "many", "number", "edge"]
abbrev p_told_sheets : List Str := ["graph", "goal", "places", "edges"]
theorem sc_told_sheets : FnScope n_told_sheets p_told_sheets (defScope s_told_sheets) := ⟨rfl, rfl, rfl, by decide +kernel, rfl, by decide +kernel, by decide +kernel⟩
def spTS (K : PySem.W.Frag) (C CB : Addr) : Sp := fun vs H Q E => ∃ (g gg pT eT' : Addr) (n gn : Nat) (es ges : List Pr) (ps : List Nat) (im : List (Option Nat)), vs = [.ref g, .ref gg, .ref pT, .ref eT'] ∧ Gk H C g n es ∧ Gk H C gg gn ges ∧ 2 ≤ gn ∧ SqT K H pT (ps.map nV) ∧ ps.length = n ∧ (∀ p ∈ ps, p < gn) ∧
  SqT K H eT' (im.map optV) ∧ im.length = es.length ∧ (∀ k, some k ∈ im → k < 400) ∧
  (∀ (H' : Hp) (l : Addr), Same H H' → faultS es im ges ps n = none → SqT K H' l ((shOf es im ges ps n).map nV) → Q (.ref l) H') ∧ (∀ (H' : Hp) (l : Addr) (num : V), Same H H' → H l = none → faultS es im ges ps n = some num → xRN H' l "sheets" num → E (.ref CB) (some l) H')
theorem ok_told_sheets (D : DefAt K mg "told_sheets" "told_sheets" s_told_sheets) (B : Bt mg) (G : GraphC K C) (T : SupRN.SupTxt P K mg "BadGraphMap" CB fB) (h_counted : Has P w K mg base CX0 1 "counted" p_counted (spCnt K C)) :
    Has P w K mg base (L2.CX P w) 2 "told_sheets" p_told_sheets (spTS K C CB) := by
  refine has_ofX D sc_told_sheets (fun _ _ _ _ _ _ us hl => match us, hl with | [_, _, _, _], _ => rfl) (fun vs H Q E h => ?_) (fun f cdv A outer s H vs Q E hr h => ?_)
  · obtain ⟨g, gg, pT, eT', n, gn, es, ges, ps, im, rfl, _⟩ := h
    rfl
  · obtain ⟨g, gg, pT, eT', n, gn, es, ges, ps, im, rfl, gr, gr2, hgn, hps, lps, bps, heT', lim, h400, q, qe⟩ := h
    have hu : (cxOf (L2.CX P w) P w K mg base n_told_sheets "told_sheets" (defScope s_told_sheets) f cdv A outer s H E).A.units + 1 < cLine := Nat.lt_of_le_of_lt (Nat.add_le_add_left (by decide : 1 ≤ 64) _) hr.units
    have tk : Takes (cxOf (L2.CX P w) P w K mg base n_told_sheets "told_sheets" (defScope s_told_sheets) f cdv A outer s H E) (fun cls d _ H => E cls d H) := takes_of rfl rfl rfl rfl
    refine ⟨_, (pss_cons (ps_setLc (i := 4) (own := [("place", 6)]) (g := gName 6) (tt := tYes) rfl sc_told_sheets.nd rfl rfl (sw_true rfl rfl rfl (by decide +kernel)) (pi_range1 rfl B.range (pa_cons (fldK (K := K) rfl (pv 1) rfl) pa_nil)) (blkOk_by (N := n_told_sheets) (sc := defScope s_told_sheets) (by decide +kernel)) (fun _ _ _ _ _ => (pg_name (i := 6) sc_told_sheets.nd rfl (.inr rfl))) (fun _ _ _ _ _ => pts_nil) (fun _ _ _ _ _ => (pe_lc (own := [("number", 9), ("edge", 10)]) (g := _) (tt := _) rfl sc_told_sheets.nd (pi_enumR (K := K) rfl rfl B.enumerate (pa_cons (fldK (K := K) rfl (pv 1) rfl) pa_nil)) (blkOk_by (N := n_told_sheets) (sc := _) (by rfl)) (fun _ _ _ _ _ => (pgT (K := K) (n := 2) rfl rfl (pgs_cons (pg_name (i := 9) sc_told_sheets.nd rfl (.inl rfl)) (pgs_cons (pg_name (i := 10) sc_told_sheets.nd rfl (.inl rfl)) pgs_nil)))) (fun _ _ _ _ _ => (pts_one (pt_cmpR (inK (K := K) rfl) (pv 6) (pv 10) (by rfl)))) (fun _ _ _ _ _ => (pv 9)))))
  (pss_cons (ps_set (i := 5) sc_told_sheets.nd rfl (.inl rfl) (pe_lst pa_nil))
  (pss_cons (ps_for PassesOwn.leaving rfl (pi_enumR (K := K) rfl rfl B.enumerate (pa_cons (pe_h h_counted hr pass0 (pa_cons (pv 0) (pa_cons (pv 3) pa_nil))) pa_nil)) (pgT (K := K) (n := 2) rfl rfl (pgs_cons (pg_name (i := 6) sc_told_sheets.nd rfl (.inl rfl)) (pgs_cons (pg_name (i := 7) sc_told_sheets.nd rfl (.inr rfl)) pgs_nil))) (pss_cons (ps_setLc (i := 8) (own := [("edge", 10)]) (g := gName 10) (tt := tYes) rfl sc_told_sheets.nd rfl rfl (sw_true rfl rfl rfl (by decide +kernel)) (piL (K := K) rfl (pe_ix (ixL (K := K) rfl) (pv 4) (pe_ix (ixT (K := K) rfl) (pv 2) (pv 6) (fun _ _ => rfl)) (fun _ _ => rfl))) (blkOk_by (N := n_told_sheets) (sc := defScope s_told_sheets) (by decide +kernel)) (fun _ _ _ _ _ => (pg_name (i := 10) sc_told_sheets.nd rfl (.inl rfl))) (fun _ _ _ _ _ => pts_nil) (fun _ _ _ _ _ => (pe_dget2 hu (pv 7) (pv 10) pe_int ⟨rfl, rfl, rfl, rfl⟩)))
  (pss_cons (ps_if (pt_cmpR op_ne (pe_callB (L2.cr_min rfl) rfl B.min (by decide +kernel) (pa_cons (pv 8) pa_nil)) (pe_callB (L2.cr_max rfl) rfl B.max (by decide +kernel) (pa_cons (pv 8) pa_nil)) (nomark _)) (pss_one (ps_raiseSupRN rfl T hr tk (pa_cons pe_str (pa_cons (pv 6) pa_nil)))) pss_nil)
  (pss_one (ps_expr (pe_bm PySem.F.plainAttrs_list PySem.F.slot_list_append PySem.F.type_list_append mt_append (pv 5) (pa_cons (pe_ix (ixL (K := K) rfl) (pv 8) pe_int (fun _ _ => rfl)) pa_nil)))))))
  (pss_one (ps_ret (pe_callTy (tupK (K := K) rfl) rfl B.tuple (by decide +kernel) (pa_cons (pv 5) pa_nil))))))), ?_⟩
    obtain ⟨⟨kd, dx, eT, vs, hg, heT, hvs⟩, good, hn1, hn64, he4, _⟩ := id gr
    obtain ⟨⟨kd2, dx2, eT2, vs2, hg2, heT2, hvs2⟩, good2, hm1, hm64, he42, _⟩ := id gr2
    have lvs2 := hvs2.len
    -- wanted
    refine ⟨_, rfl, gg, C, dx2, _, _, rfl, hg2, G.cls, G.n, rfl, gn, rfl, by omega, by omega, fun W0 nW => ?_⟩
    refine lc_range (lo := 0) (n := gn) (fun i H2 => Same H H2 ∧ ∃ as, as.length = i ∧ Rows H2 W0 as (fun p => .lst ((wantE ges p).map nV))) ⟨same_upd nW, [], rfl, Rows.nil⟩ ?_ ?_
    · rintro i H2 hi ⟨sm, as, las, ro⟩
      have ei : V.int (0 + (i : Int)) = nV i := by rw [Int.zero_add]
      rw [ei]
      refine ⟨rfl, yes_ ?_⟩
      have heT22 := sm _ _ heT2
      refine ⟨_, rfl, gg, C, dx2, _, _, rfl, sm _ _ hg2, G.cls, G.edges, rfl, eT2, rfl, .inr ⟨⟨_, SqT.of heT22⟩, fun L nL => ?_⟩⟩
      refine lc_it (walk_enumT (K := K) (a := eT2) (xs := vs2)) (fun j H3 => Same H2 H3 ∧ H3 L = some (.lst (((List.range j).filter fun k => decide ((ges.getD k (0, 0)).1 = i) || decide ((ges.getD k (0, 0)).2 = i)).map nV))) ⟨same_upd nL, upd_same⟩ (fun j H3 _ p => SqT.of (p.1 _ _ heT22)) ?_ ?_
      · rintro j x H3 H4 hj ⟨sm3, hL⟩ ⟨T0, x1, y1, rfl, nT0, rfl, hx1, hy1⟩
        cases hx1
        have hjl : j < ges.length := by omega
        obtain ⟨tt, e1, e2⟩ := hvs2.get hjl
        have hy1 : vs2[j]? = some y1 := hy1
        rw [hy1] at e1
        obtain rfl := Option.some.inj e1
        have ej : ges.getD j (0, 0) = ges[j] := by rw [List.getD_eq_getElem?_getD, List.getElem?_eq_getElem hjl]; rfl
        have sT : Same H3 (upd H3 T0 (.tup [.int (j : Nat), .ref tt])) := same_upd nT0
        have ht := sT _ _ (sm3 _ _ (sm _ _ e2))
        refine ⟨T0, _, rfl, SqT.of upd_same, rfl, _, _, rfl, _, _, rfl, rfl, rfl, ?_⟩
        refine ⟨_, rfl, _, rfl, tt, _, rfl, .inr (SqT.of ht), rfl, rfl, _, rfl, ?_⟩
        have eb : inV (nV i) [nV ges[j].1, nV ges[j].2] = (decide ((ges.getD j (0, 0)).1 = i) || decide ((ges.getD j (0, 0)).2 = i)) := by
          rw [ej]
          show (eqV (nV ges[j].1) (nV i) || (eqV (nV ges[j].2) (nV i) || false)) = _
          rw [eqV_nV, eqV_nV, Bool.or_false]
        show ite (inV (nV i) [nV ges[j].1, nV ges[j].2] = true) _ _
        rw [eb]
        have er : (List.range (j + 1)).filter (fun k => decide ((ges.getD k (0, 0)).1 = i) || decide ((ges.getD k (0, 0)).2 = i)) = (List.range j).filter (fun k => decide ((ges.getD k (0, 0)).1 = i) || decide ((ges.getD k (0, 0)).2 = i)) ++ if (decide ((ges.getD j (0, 0)).1 = i) || decide ((ges.getD j (0, 0)).2 = i)) = true then [j] else [] := by
          rw [List.range_succ, List.filter_append]
          congr 1
          rw [List.filter_cons]; rfl
        cases hb : (decide ((ges.getD j (0, 0)).1 = i) || decide ((ges.getD j (0, 0)).2 = i)) with
        | true =>
          refine iteT ⟨_, rfl, _, sT _ _ hL, size_lt ?_, same_mut (sm3.trans sT) nL, ?_⟩
          · rw [List.length_map]
            have := List.length_filter_le (fun k => decide ((ges.getD k (0, 0)).1 = i) || decide ((ges.getD k (0, 0)).2 = i)) (List.range j)
            rw [List.length_range] at this
            omega
          · rw [upd_same, er, if_pos hb, List.map_append]; rfl
        | false =>
          refine iteF ⟨sm3.trans sT, ?_⟩
          rw [er, if_neg (by rw [hb]; exact Bool.false_ne_true), List.append_nil]
          exact sT _ _ hL
      · rintro H3 ⟨sm3, hL⟩
        rw [lvs2] at hL
        have hL : H3 L = some (.lst ((wantE ges i).map nV)) := hL
        have ro3 := ro.same sm3
        obtain ⟨r1, r2, r3⟩ := id ro3
        have nLW : L ≠ W0 := fun z => by
          rw [z, ro.1] at nL; cases nL
        have nLa : L ∉ as := fun z => by
          obtain ⟨k, hk, e⟩ := List.getElem_of_mem z
          have := (ro.2.2 k L (by rw [← e]; exact List.getElem?_eq_getElem hk)).2
          rw [nL] at this; cases this
        refine ⟨_, r1, size_lt (by rw [List.length_map]; omega), same_mut (sm.trans sm3) nW, as ++ [L], by rw [List.length_append, las]; rfl, ?_⟩
        refine ⟨by rw [upd_same, List.map_append]; rfl, ?_, fun k a hk => ?_⟩
        · refine List.nodup_append.mpr ⟨r2, List.nodup_cons.mpr ⟨List.not_mem_nil, List.nodup_nil⟩, fun x hx y hy e => ?_⟩
          rw [List.mem_singleton.mp hy] at e
          exact nLa (e ▸ hx)
        · by_cases c : k < as.length
          · rw [List.getElem?_append_left c] at hk
            obtain ⟨a1, a2⟩ := r3 k a hk
            exact ⟨a1, by rw [upd_ne a1]; exact a2⟩
          · rw [List.getElem?_append_right (by omega)] at hk
            have hkk : k - as.length = 0 := by
              have := (List.getElem?_eq_some_iff.mp hk).1
              simp at this; omega
            rw [hkk] at hk
            cases hk
            have : k = i := by omega
            subst this
            exact ⟨nLW, by rw [upd_ne nLW]; exact hL⟩
    rintro H2 ⟨sm2, as2, las2, ro2⟩
    -- found
    refine ⟨by show 0 ≤ sizeLine; decide, fun F0 nF0 => ?_⟩
    have sF : Same H2 (upd H2 F0 (.lst [])) := same_upd nF0
    have hF : (upd H2 F0 (.lst [])) F0 = some (.lst []) := upd_same
    have nF02 : H F0 = none := sm2.free nF0
    generalize upd H2 F0 (.lst []) = H3 at sF hF ⊢
    have s03 := sm2.trans sF
    have ro3 := ro2.same sF
    refine ⟨_, rfl, _, rfl, g, eT', n, es, im, rfl, gr.same s03, Same.seqT s03 heT', lim, h400, fun H4 B0 as ks s34 las ro4 hks => ?_⟩
    have s04 := s03.trans s34
    have ro24 := ro3.same s34
    have hF4 := s34 _ _ hF
    have freshF : ∀ a o, H2 a = some o → a ≠ F0 := fun a o e z => by rw [z, nF0] at e; cases e
    refine ⟨B0, rfl, .inl ⟨⟨_, SqL.of ro4.1⟩, ?_⟩⟩
    have nBF : B0 ≠ F0 := fun z => by
      have h1 := ro4.1
      rw [z, hF4] at h1
      cases as with
      | nil => rw [← las] at hn1; exact absurd hn1 (by decide)
      | cons _ _ => cases h1
    refine for_enL (K := K) (a := B0) (xs := as.map V.ref) (fun i σ H' => ∃ (y z t : Option V), σ = [some (.ref g), some (.ref gg), some (.ref pT), some (.ref eT'), some (.ref W0), some (.ref F0), y, z, t, none, none] ∧ But (· = F0) H4 H' ∧ H' F0 = some (.lst (((List.range i).map fun v => (rowS es im ges ps v).headD 0).map nV)) ∧ ∀ j, j < i → evB (rowS es im ges ps j) = true) ?_ ?_ ?_ ?_
    · exact ⟨_, _, _, rfl, But.refl, hF4, fun j h => absurd h (Nat.not_lt_zero _)⟩
    · rintro i σ H' _ ⟨_, _, _, _, bt, _⟩
      exact SqL.of (bt _ _ nBF ro4.1)
    · rintro i x T0 σ H' hx ⟨y, z, t, rfl, bt, hF', hj⟩ nT0
      have hi : i < as.length := by have := (List.getElem?_eq_some_iff.mp hx).1; rwa [List.length_map] at this
      rw [rows_get hi] at hx
      obtain rfl := Option.some.inj hx
      have sT : Same H' (upd H' T0 (.tup [.int (i : Nat), .ref as[i]])) := same_upd nT0
      have hT : (upd H' T0 (.tup [.int (i : Nat), .ref as[i]])) T0 = some (.tup [.int (i : Nat), .ref as[i]]) := upd_same
      have bt5 : But (· = F0) H4 (upd H' T0 (.tup [.int (i : Nat), .ref as[i]])) := bt.trans (Same.but sT)
      have hF5 := sT _ _ hF'
      generalize upd H' T0 (.tup [.int (i : Nat), .ref as[i]]) = H5 at sT hT bt5 hF5 ⊢
      refine ⟨T0, _, rfl, SqT.of hT, rfl, _, _, rfl, _, _, rfl, rfl, ?_⟩
      have keep2 : ∀ a o, H2 a = some o → H5 a = some o := fun a o e => bt5 _ _ (freshF a o e) (s34 _ _ (sF _ _ e))
      have hpi : i < ps.length := by omega
      have hp : (ps.map nV)[i]? = some (nV (ps.getD i 0)) := by
        rw [List.getElem?_map, List.getD_eq_getElem?_getD, List.getElem?_eq_getElem hpi]; rfl
      have hpl : ps.getD i 0 < gn := by
        rw [List.getD_eq_getElem?_getD, List.getElem?_eq_getElem hpi]
        exact bps _ (List.getElem_mem hpi)
      have lp2 : ps.getD i 0 < as2.length := by omega
      have hW := keep2 _ _ ro2.1
      have hwt := keep2 _ _ (ro2.at lp2).2
      have hps5 : SqT K H5 pT (ps.map nV) := seqT_at (fun o e => keep2 _ _ (sm2 _ _ e)) hps
      have hai := ro4.at hi
      have naF : as[i] ≠ F0 := ne_of hai.2 hF4 (fun z => by cases z)
      have ha5 := bt5 _ _ naF hai.2
      refine ⟨_, rfl, _, rfl, _, rfl, _, _, i, _, rfl, rfl, hps5, atI_nat hp, _, _, ps.getD i 0, .ref as2[ps.getD i 0], rfl, rfl, SqL.of hW, atI_nat (rows_get lp2), as2[ps.getD i 0], rfl, ⟨_, SqL.of hwt⟩, fun M nM => ?_⟩
      have lw : (wantE ges (ps.getD i 0)).length ≤ ges.length := by
        unfold wantE
        have := List.length_filter_le (fun k => decide ((ges.getD k (0, 0)).1 = ps.getD i 0) || decide ((ges.getD k (0, 0)).2 = ps.getD i 0)) (List.range ges.length)
        rwa [List.length_range] at this
      refine lc_list (K := K) (a := as2[ps.getD i 0]) (xs := (wantE ges (ps.getD i 0)).map nV) (fun j H6 => Same H5 H6 ∧ H6 M = some (.lst ((((wantE ges (ps.getD i 0)).take j).map fun k => cntE es im i k).map nV))) ⟨same_upd nM, upd_same⟩ (fun j H6 _ p => SqL.of (p.1 _ _ hwt)) ?_ ?_
      · rintro j x H6 hx ⟨sm6, hM⟩
        rw [List.getElem?_map] at hx
        obtain ⟨k, hk, rfl⟩ := Option.map_eq_some_iff.mp hx
        have hjl : j < (wantE ges (ps.getD i 0)).length := (List.getElem?_eq_some_iff.mp hk).1
        have ha6 := sm6 _ _ ha5
        refine ⟨rfl, yes_ ?_⟩
        refine ⟨_, rfl, as[i], rfl, .inl ⟨_, .inl ha6⟩, _, rfl, _, DGet.k (k := Sum.inl (k : Int)) ha6, ?_⟩
        rw [(hks i).get k]
        refine ⟨_, hM, size_lt (by rw [List.length_map, List.length_map, List.length_take]; omega), same_mut sm6 nM, ?_⟩
        rw [upd_same, List.take_add_one, hk, List.map_append, List.map_append]; rfl
      rintro H6 ⟨sm6, hM⟩
      rw [List.length_map, List.take_length] at hM
      have hM : H6 M = some (.lst ((rowS es im ges ps i).map nV)) := hM
      have hM2 : H6 M = some (.lst (((rowS es im ges ps i).map fun n : Nat => (n : Int)).map V.int)) := by rw [hM, List.map_map]; rfl
      have lne : rowS es im ges ps i ≠ [] := fun z => want_ne good2 hgn hpl (List.map_eq_nil_iff.mp z)
      have lpos : 0 < ((rowS es im ges ps i).map fun n : Nat => (n : Int)).length := by
        rw [List.length_map]; exact List.length_pos_iff.mpr lne
      have bt6 : But (· = F0) H4 H6 := bt5.trans (Same.but sm6)
      have hF6 := sm6 _ _ hF5
      refine ⟨_, rfl, M, _, rfl, SqL.of hM2, lpos, fun m1 hm1 hmin => ?_⟩
      refine ⟨_, rfl, M, _, rfl, SqL.of hM2, lpos, fun m2 hm2 hmax => ?_⟩
      have ev := evB_iff hm1 hmin hm2 hmax
      refine ⟨rfl, _, rfl, ifN (fun ne => ?_) fun e => ?_⟩
      · have hb : evB (rowS es im ges ps i) = false := by
          cases h : evB (rowS es im ges ps i) with
          | false => rfl
          | true => exact absurd (congrArg V.int (ev.mp h)) ne
        refine ⟨_, rfl, _, _, rfl, fun l nl => ?_⟩
        have s06 : Same H H6 := fun b o eb => bt6 _ _ (freshF b o (sm2 _ _ eb)) (s04 _ _ eb)
        refine qe _ l (nV i) (s06.trans (same_upd nl)) (s06.free nl) ?_ upd_same
        unfold faultS
        rw [fbad_some (p := fun v => evB (rowS es im ges ps v)) (by omega) hj hb]; rfl
      · have e : m1 = m2 := by injection e
        have hb := ev.mpr e
        obtain ⟨r0, rr, err⟩ : ∃ r0 rr, rowS es im ges ps i = r0 :: rr := by
          cases h : rowS es im ges ps i with
          | nil => exact absurd h lne
          | cons a l => exact ⟨a, l, rfl⟩
        have h0 : (rowS es im ges ps i).headD 0 = r0 := by rw [err]; rfl
        have hMr := hM
        rw [err] at hMr
        refine ⟨_, rfl, .inl ⟨rfl, _, SqL.of hF6⟩, _, rfl, _, _, 0, nV r0, rfl, rfl, SqL.of hMr, atI_nat (j := 0) rfl, _, _, _, rfl, rfl, hF6, size_lt (by rw [List.length_map, List.length_map, List.length_range]; omega), ?_⟩
        refine ⟨_, _, _, rfl, bt6.trans (But.mut (X := (· = F0)) rfl), ?_, fun j hjl => ?_⟩
        · rw [upd_same, List.range_succ, List.map_append, List.map_append]
          show some (HO.lst (_ ++ [nV r0])) = some (HO.lst (_ ++ [nV ((rowS es im ges ps i).headD 0)]))
          rw [h0]
        · by_cases c : j < i
          · exact hj j c
          · have : j = i := by omega
            subst this
            exact hb
    · rintro σ H' ⟨y, z, t, rfl, bt, hF', hj⟩
      rw [List.length_map, las] at hF' hj
      have s0 : Same H H' := fun b o eb => bt _ _ (freshF b o (sm2 _ _ eb)) (s04 _ _ eb)
      refine ⟨_, rfl, F0, _, rfl, .inl ⟨SqL.of hF', fun l nl => ?_⟩⟩
      refine q _ l (s0.trans (same_upd nl)) ?_ (SqT.of upd_same)
      unfold faultS
      rw [fbad_none (p := fun v => evB (rowS es im ges ps v)) hj]; rfl
end
end G3

set_option Elab.async false
set_option linter.all false
set_option maxRecDepth 100000
set_option maxHeartbeats 2000000
namespace G3
open PySem PySem.Spec PyProof.Rows L2
/-! ### min of a tuple of ints -/
theorem foldl_min : ∀ (l : List Int) (a : Int), (l.foldl min a = a ∨ l.foldl min a ∈ l) ∧ l.foldl min a ≤ a ∧ ∀ y ∈ l, l.foldl min a ≤ y
  | [], a => ⟨.inl rfl, Int.le_refl _, fun y h => nomatch h⟩
  | x :: l, a => by
    obtain ⟨h1, h2, h3⟩ := foldl_min l (min a x)
    rw [List.foldl_cons]
    refine ⟨?_, by omega, fun y hy => ?_⟩
    · rcases h1 with h1 | h1
      · by_cases c : a ≤ x
        · exact .inl (by rw [h1]; omega)
        · exact .inr (by rw [h1, show min a x = x by omega]; exact List.mem_cons_self ..)
      · exact .inr (List.mem_cons_of_mem _ h1)
    · rcases List.mem_cons.mp hy with rfl | hy
      · omega
      · exact h3 y hy
theorem alikeAll_intsV (ns : List Int) : PySem.W.AlikeAll (ns.map PyData.int) := by
  refine ⟨fun x hx y hy => ?_, fun x hx => ?_⟩
  · obtain ⟨a, _, rfl⟩ := List.mem_map.mp hx
    obtain ⟨b, _, rfl⟩ := List.mem_map.mp hy
    simp [PySem.W.alike]
  · obtain ⟨a, _, rfl⟩ := List.mem_map.mp hx
    exact fun z => by cases z
def rMinT (K : PySem.W.Frag) : List V → Hp → VK → Prop := fun vs H Q => ∃ (a : Addr) (ns : List Int), vs = [V.ref a] ∧ SqT K H a (ns.map V.int) ∧ 0 < ns.length ∧ ∀ m, m ∈ ns → (∀ y, y ∈ ns → m ≤ y) → Q (.int m) H
theorem cr_minT {X : Cx} {K : PySem.W.Frag} (hK : X.K = K) (hc : X.calm = true) (hu : X.A.units + 64 < cLine) : CallR X (.builtin "min") (rMinT K) := by
  subst hK
  intro pins s σ H vs us Q I r h
  obtain ⟨a, ns, rfl, hs, hne, q⟩ := h
  obtain ⟨its, rv, hl, _⟩ := I.tuple hs
  rw [Vals.ref1 r]
  rcases ns with _ | ⟨n, ns⟩
  · exact absurd hne (by decide)
  obtain ⟨as, rd⟩ := Dp.readsAll I ((n :: ns).map PyData.int) ((n :: ns).map V.int) its (dpAll_ints (n :: ns)) rv
  have dz : PyData.depthAll ((n :: ns).map PyData.int) = 0 := PySem.W.depth_ints (n :: ns)
  refine PySem.W.min_tuple_data (x := .int n) (xs := ns.map .int) (I.ok.hd hc) hl rd (alikeAll_intsV (n :: ns)) (by
    show X.A.units + 1 + PyData.depthAll ((n :: ns).map PyData.int) < cLine
    omega) fun i v h' tk bs hv rr k => ?_
  rw [PySem.W.minD_ints] at rr
  obtain ⟨m1, m2, m3⟩ := foldl_min ns n
  generalize ns.foldl min n = m at rr m1 m2 m3
  cases rr
  refine ⟨.int m, H, I.kept k, ⟨_, rfl⟩, q m ?_ ?_⟩
  · rcases m1 with rfl | h
    · exact List.mem_cons_self ..
    · exact List.mem_cons_of_mem _ h
  · intro y hy
    rcases List.mem_cons.mp hy with rfl | hy
    · exact m2
    · exact m3 y hy
/-! ### edges as data -/
def edD (es : List Pr) : PyData := .tuple (es.map fun e => .tuple [.int (e.1 : Nat), .int (e.2 : Nat)])
theorem prs_dp {K : PySem.W.Frag} {H : Hp} : ∀ {vs : List V} {es : List Pr}, Prs H vs es → DpAll K H vs (es.map fun e => .tuple [.int (e.1 : Nat), .int (e.2 : Nat)])
  | [], [], _ => .nil
  | v :: vs, e :: es, ⟨⟨t, h1, h2⟩, h⟩ => by
    subst h1
    rw [List.map_cons]
    exact .cons (.tup (SqT.of h2) (.cons (.int _) (.cons (.int _) .nil))) (prs_dp h)
  | [], _ :: _, h => h.elim
  | _ :: _, [], h => h.elim
theorem eqv_edges : ∀ es fs : List Pr, PyData.eqvAll (es.map fun e => .tuple [.int (e.1 : Nat), .int (e.2 : Nat)]) (fs.map fun e => .tuple [.int (e.1 : Nat), .int (e.2 : Nat)]) = decide (es = fs)
  | [], [] => by simp [PyData.eqvAll]
  | [], _ :: _ => by simp [PyData.eqvAll]
  | _ :: _, [] => by simp [PyData.eqvAll]
  | e :: es, f :: fs => by
    rw [List.map_cons, List.map_cons, PyData.eqvAll, eqv_edges es fs, eqv_pair]
    by_cases h1 : e = f
    · by_cases h2 : es = fs
      · rw [h1, h2]; simp
      · simp [h2]
    · have : ¬ ((e.1, e.2) : Pr) = (f.1, f.2) := h1
      rw [decide_eq_false this, Bool.false_and]
      exact (decide_eq_false fun z => h1 (by injection z)).symm
theorem lay_edges : ∀ es : List Pr, PyData.canLayAll0 (es.map fun e => .tuple [.int (e.1 : Nat), .int (e.2 : Nat)]) = true
  | [] => by simp [PyData.canLayAll0]
  | e :: es => by
    rw [List.map_cons, PyData.canLayAll0, lay_edges es]
    simp [PyData.canLay0, PyData.canLayAll0]
theorem depth_edges : ∀ es : List Pr, PyData.depthAll (es.map fun e => .tuple [.int (e.1 : Nat), .int (e.2 : Nat)]) ≤ 10
  | [] => by simp [PyData.depthAll]
  | e :: es => by
    have ih := depth_edges es
    rw [List.map_cons]
    simp only [PyData.depthAll, PyData.depth]
    omega
theorem shaped_edges (es : List Pr) : SeqAt.shaped (edD es) = true := by
  unfold SeqAt.shaped edD
  rw [Bool.and_eq_true]
  refine ⟨by rw [PyData.canLay0]; exact lay_edges es, decide_eq_true ?_⟩
  have := depth_edges es
  simp only [PyData.depth]
  omega
theorem eqv_edD (es fs : List Pr) : PyData.eqv (edD es) (edD fs) = decide (es = fs) := by
  unfold edD
  rw [PyData.eqv]
  exact eqv_edges es fs
section
variable {P : Program} {w : World} {K : PySem.W.Frag} {mg : Str → Option Value} {base : Heap} {C CB CM fB : Addr}
abbrev n_Graph___eq__ : List Str := ["self", "other"]
abbrev p_Graph___eq__ : List Str := ["self", "other"]
theorem sc_Graph___eq__ : FnScope n_Graph___eq__ p_Graph___eq__ (defScope s_Graph___eq__) := ⟨rfl, rfl, rfl, by decide +kernel, rfl, by decide +kernel, by decide +kernel⟩
abbrev n_GraphMap___init__ : List Str := ["self", "graph", "goal", "places", "edges", "edge"]
abbrev p_GraphMap___init__ : List Str := ["self", "graph", "goal", "places", "edges"]
theorem sc_GraphMap___init__ : FnScope n_GraphMap___init__ p_GraphMap___init__ (defScope s_GraphMap___init__) := ⟨rfl, rfl, rfl, by decide +kernel, rfl, by decide +kernel, by decide +kernel⟩
/-- graphs are equal: the same places and edges -/
def spGEq (C : Addr) : Sp := fun vs H Q _ => ∃ (a b : Addr) (n m : Nat) (es fs : List Pr), vs = [.ref a, .ref b] ∧ Gk H C a n es ∧ Gk H C b m fs ∧ Q (.bl (decide (n = m ∧ es = fs))) H
theorem ok_GEq (D : EqAt K C "__eq__" "Graph.__eq__" s_Graph___eq__) (B : Bt mg) (G : GraphC K C) (gG : mg "Graph" = some (.ref C)) (ic : C8.InsC K C) : HasEq P w K mg base 1 C p_Graph___eq__ (spGEq C) := by
  refine hasEq_of D sc_Graph___eq__ (fun _ _ _ _ _ _ us hl => match us, hl with | [_, _], _ => rfl) (fun vs H Q E h => ?_) (fun f cdv A outer s H vs Q E hr h => ?_)
  · obtain ⟨a, b, n, m, es, fs, rfl, _⟩ := h
    rfl
  · obtain ⟨a, b, n, m, es, fs, rfl, gr, gr2, q⟩ := h
    have hr0 : Room 0 _ := hr
    refine ⟨_, (pss_cons (ps_if (pt_not (pt_val (pe_callB (C8.call_isC ic) rfl B.isinstance (by decide +kernel) (pa_cons (pv 1) (pa_cons (pe_glob (v := .ref C) rfl gG rfl) pa_nil))))) (pss_one ps_never) pss_nil)
  (pss_one (ps_ret (pe_and (pe_cmpR op_eq (fldK (K := K) rfl (pv 0) rfl) (fldK (K := K) rfl (pv 1) rfl) (nomark _)) (pe_one (pe_cmpR (op_eqD hr.units) (fldK (K := K) rfl (pv 0) rfl) (fldK (K := K) rfl (pv 1) rfl) (nomark _))))))), ?_⟩
    obtain ⟨⟨kd, dx, eT, vs, hg, heT, hvs⟩, good, hn1, hn64, he4, _⟩ := id gr
    obtain ⟨⟨kd2, dx2, eT2, vs2, hg2, heT2, hvs2⟩, good2, hm1, hm64, he42, _⟩ := id gr2
    refine ⟨_, rfl, b, dx2, _, rfl, hg2, _, rfl, iteF ?_⟩
    refine ⟨_, rfl, a, C, dx, _, _, rfl, hg, G.cls, G.n, rfl, _, rfl, b, C, dx2, _, _, rfl, hg2, G.cls, G.n, rfl, rfl, _, rfl, ?_⟩
    refine ifD (fun e => ?_) (fun ne => ?_)
    · have e : n = m := by injection e with e; omega
      refine ⟨_, rfl, a, C, dx, _, _, rfl, hg, G.cls, G.edges, rfl, _, rfl, b, C, dx2, _, _, rfl, hg2, G.cls, G.edges, rfl, ?_⟩
      refine ⟨edD es, edD fs, .tup (SqT.of heT) (prs_dp hvs), .tup (SqT.of heT2) (prs_dp hvs2), shaped_edges _, shaped_edges _, ?_⟩
      rw [eqv_edD]
      have ed : decide (n = m ∧ es = fs) = decide (es = fs) := decide_eq_decide.mpr ⟨fun h => h.2, fun h => ⟨e, h⟩⟩
      rw [ed] at q
      exact q
    · have ed : decide (n = m ∧ es = fs) = false := decide_eq_false fun z => ne (by rw [z.1])
      rw [ed] at q
      exact q
/-- the class of maps -/
structure GMapC (K : PySem.W.Frag) (CM : Addr) : Prop where
  cls : Cls K CM
  graph : NoAttr K CM "graph"
  goal : NoAttr K CM "goal"
  places : NoAttr K CM "places"
  edges : NoAttr K CM "edges"
  sheets : NoAttr K CM "sheets"
  degree : NoAttr K CM "degree"
/-- a map -/
def GMap (K : PySem.W.Frag) (H : Hp) (CM x g gg : Addr) (ps : List Nat) (im : List (Option Nat)) (sh : List Nat) : Prop := ∃ dx pT eT sT, H x = some (.ins CM dx [("graph", .ref g), ("goal", .ref gg), ("places", .ref pT), ("edges", .ref eT), ("sheets", .ref sT), ("degree", nV (degOf im))]) ∧
  SqT K H pT (ps.map nV) ∧ SqT K H eT (im.map optV) ∧ SqT K H sT (sh.map nV)
theorem GMap.same {H H' : Hp} {x g gg : Addr} {ps : List Nat} {im : List (Option Nat)} {sh : List Nat} (h : GMap K H CM x g gg ps im sh) (e : Same H H') : GMap K H' CM x g gg ps im sh := by
  obtain ⟨dx, pT, eT, sT, h1, h2, h3, h4⟩ := h
  exact ⟨dx, pT, eT, sT, e _ _ h1, Same.seqT e h2, Same.seqT e h3, Same.seqT e h4⟩
theorem seqT_mut {K : PySem.W.Frag} {H : Hp} {a x C dx : Addr} {xs : List V} {fs : List (Str × V)} {o : HO} (h : SqT K H a xs) (hx : H x = some (.ins C dx fs)) : SqT K (upd H x o) a xs := by
  rcases h with (h | ⟨u, h⟩) | h
  · exact .inl (.inl (by rw [upd_ne (ne_of h hx (fun z => by cases z))]; exact h))
  · exact .inl (.inr ⟨u, by rw [upd_ne (ne_of h hx (fun z => by cases z))]; exact h⟩)
  · exact .inr h
def spGM (K : PySem.W.Frag) (C CM CB : Addr) : Sp := fun vs H Q E => ∃ (H0 : Hp) (x dx g gg : Addr) (n gn : Nat) (es ges : List Pr) (v1 v2 : V) (d1 d2 : PyData), vs = [.ref x, .ref g, .ref gg, v1, v2] ∧ Same H0 H ∧ H0 x = none ∧ H x = some (.ins CM dx []) ∧ Gk H0 C g n es ∧ Gk H0 C gg gn ges ∧ ArgD K H0 v1 d1 ∧ ArgD K H0 v2 d2 ∧
  (∀ (H' : Hp), Same H0 H' → faultM n es gn ges d1 d2 = none → GMap K H' CM x g gg (plOf d1) (imOf d2) (shOf es (imOf d2) ges (plOf d1) n) → Q .non H') ∧
  (∀ (H' : Hp) (l : Addr) (r : Str) (num : V), Same H0 H' → H0 l = none → faultM n es gn ges d1 d2 = some (r, num) → xRN H' l r num → E (.ref CB) (some l) H')
theorem ok_GraphMap (D : MkAt K mg "GraphMap" CM "__init__" "GraphMap.__init__" s_GraphMap___init__) (B : Bt mg) (G : GraphC K C) (GM : GMapC K CM) (T : SupRN.SupTxt P K mg "BadGraphMap" CB fB)
    (h_told_places : Has P w K mg base (L2.CX P w) 2 "told_places" p_told_places (spTP K C CB)) (h_told_edges : Has P w K mg base (L2.CX P w) 3 "told_edges" p_told_edges (spTE K C CB)) (h_told_sheets : Has P w K mg base (L2.CX P w) 2 "told_sheets" p_told_sheets (spTS K C CB)) :
    HasMk P w K mg base (L2.CX P w) 4 "GraphMap" CM p_GraphMap___init__ (spGM K C CM CB) := by
  refine hasMk_ofX D sc_GraphMap___init__ (fun _ _ _ _ _ _ us hl => match us, hl with | [_, _, _, _, _], _ => rfl) (fun vs H Q E h => ?_) (fun f cdv A outer s H vs Q E hr h => ?_)
  · obtain ⟨H0, x, dx, g, gg, n, gn, es, ges, v1, v2, d1, d2, rfl, _⟩ := h
    rfl
  · obtain ⟨H0, x, dx, g, gg, n, gn, es, ges, v1, v2, d1, d2, rfl, sm0, nx0, hx, gr, gr2, hv1, hv2, q, qe⟩ := h
    have tk : Takes (cxOf (L2.CX P w) P w K mg base n_GraphMap___init__ "GraphMap.__init__" (defScope s_GraphMap___init__) f cdv A outer s H E) (fun cls d _ H => E cls d H) := takes_of rfl rfl rfl rfl
    refine ⟨_, (pss_cons (ps_if (pt_cmpR op_eq (fldK (K := K) rfl (pv 2) rfl) pe_int (nomark _)) (pss_one (ps_raiseSupRN rfl T hr tk (pa_cons pe_str (pa_cons pe_non pa_nil)))) pss_nil)
  (pss_cons (ps_fld (pv 0) (pv 1) rfl)
  (pss_cons (ps_fld (pv 0) (pv 2) rfl)
  (pss_cons (ps_fld (pv 0) (pe_hS h_told_places hr (fun σ => passAt tk σ) (pa_cons (pv 1) (pa_cons (pv 2) (pa_cons (pv 3) pa_nil)))) rfl)
  (pss_cons (ps_fld (pv 0) (pe_hS h_told_edges hr (fun σ => passAt tk σ) (pa_cons (pv 1) (pa_cons (pv 2) (pa_cons (fldK (K := K) rfl (pv 0) rfl) (pa_cons (pv 4) pa_nil))))) rfl)
  (pss_cons (ps_fld (pv 0) (pe_hS h_told_sheets hr (fun σ => passAt tk σ) (pa_cons (pv 1) (pa_cons (pv 2) (pa_cons (fldK (K := K) rfl (pv 0) rfl) (pa_cons (fldK (K := K) rfl (pv 0) rfl) pa_nil))))) rfl)
  (pss_one (ps_fld (pv 0) (pe_callB (lenK (K := K) rfl) rfl B.len PySem.boot_len (pa_cons (pe_lc (own := [("edge", 5)]) (g := gName 5) (tt := _) rfl sc_GraphMap___init__.nd (piT (K := K) rfl (fldK (K := K) rfl (pv 0) rfl)) (blkOk_by (N := n_GraphMap___init__) (sc := defScope s_GraphMap___init__) (by decide +kernel)) (fun _ _ _ _ _ => (pg_name (i := 5) sc_GraphMap___init__.nd rfl (.inl rfl))) (fun _ _ _ _ _ => (pts_one (pt_cmpR op_eq (pv 5) pe_int (nomark _)))) (fun _ _ _ _ _ => (pv 5))) pa_nil)) rfl)))))))), ?_⟩
    obtain ⟨⟨kd2, dx2, eT2, vs2, hg2, heT2, hvs2⟩, good2, hm1, hm64, he42, _⟩ := id gr2
    have he1 : es.length ≤ 400 := gr.2.2.2.2.1
    refine ⟨_, rfl, gg, C, dx2, _, _, rfl, sm0 _ _ hg2, G.cls, G.n, rfl, rfl, _, rfl, ifD (fun e1 => ?_) (fun ne1 => ?_)⟩
    · have e1 : gn = 1 := by injection e1 with e1; omega
      exact ⟨_, _, rfl, fun l nl => qe _ l "goal" .non (sm0.trans (same_upd nl)) (sm0.free nl) (by unfold faultM; rw [if_pos e1]) upd_same⟩
    have ne1 : gn ≠ 1 := fun z => ne1 (by rw [z]; rfl)
    -- self.graph, self.goal
    refine ⟨_, rfl, _, rfl, x, CM, dx, _, rfl, hx, GM.cls, GM.graph, by decide, ?_⟩
    have hx1 : (upd H x (.ins CM dx [("graph", .ref g)])) x = some (.ins CM dx [("graph", .ref g)]) := upd_same
    have sm1 : Same H0 (upd H x (.ins CM dx [("graph", .ref g)])) := same_mut sm0 nx0
    show tSeq _ _ _ _ (upd H x (.ins CM dx [("graph", .ref g)]))
    generalize upd H x (.ins CM dx [("graph", .ref g)]) = H1 at hx1 sm1 ⊢
    refine ⟨_, rfl, _, rfl, x, CM, dx, _, rfl, hx1, GM.cls, GM.goal, by show 1 < 1000; decide, ?_⟩
    have hx2 : (upd H1 x (.ins CM dx [("graph", .ref g), ("goal", .ref gg)])) x = some (.ins CM dx [("graph", .ref g), ("goal", .ref gg)]) := upd_same
    have sm2 : Same H0 (upd H1 x (.ins CM dx [("graph", .ref g), ("goal", .ref gg)])) := same_mut sm1 nx0
    show tSeq _ _ _ _ (upd H1 x (.ins CM dx [("graph", .ref g), ("goal", .ref gg)]))
    generalize upd H1 x (.ins CM dx [("graph", .ref g), ("goal", .ref gg)]) = H2 at hx2 sm2 ⊢
    -- self.places
    refine ⟨_, rfl, _, rfl, _, rfl, g, gg, n, gn, es, ges, v1, d1, rfl, gr.same sm2, gr2.same sm2, hv1.same sm2, fun H3 pT s3 hf1 hpT => ?_, fun H3 l num s3 nl hf1 hxr => ?bad⟩
    case bad =>
      refine qe _ l "places" num (sm2.trans s3) (sm2.free nl) ?_ hxr
      unfold faultM
      rw [if_neg ne1, hf1]
    have sm3 := sm2.trans s3
    have hx3 := s3 _ _ hx2
    refine ⟨_, rfl, x, CM, dx, _, rfl, hx3, GM.cls, GM.places, by show 2 < 1000; decide, ?_⟩
    have hx4 : (upd H3 x (.ins CM dx [("graph", .ref g), ("goal", .ref gg), ("places", .ref pT)])) x = some (.ins CM dx [("graph", .ref g), ("goal", .ref gg), ("places", .ref pT)]) := upd_same
    have sm4 : Same H0 (upd H3 x (.ins CM dx [("graph", .ref g), ("goal", .ref gg), ("places", .ref pT)])) := same_mut sm3 nx0
    have hpT4 : SqT K (upd H3 x (.ins CM dx [("graph", .ref g), ("goal", .ref gg), ("places", .ref pT)])) pT ((plOf d1).map nV) := seqT_mut hpT hx3
    show tSeq _ _ _ _ (upd H3 x (.ins CM dx [("graph", .ref g), ("goal", .ref gg), ("places", .ref pT)]))
    generalize upd H3 x (.ins CM dx [("graph", .ref g), ("goal", .ref gg), ("places", .ref pT)]) = H4 at hx4 sm4 hpT4 ⊢
    obtain ⟨ds1, hr1, eds1, lps, bps⟩ := faultP_none hf1
    -- self.edges
    refine ⟨_, rfl, _, rfl, _, rfl, x, CM, dx, _, _, rfl, hx4, GM.cls, GM.places, rfl, _, rfl, g, gg, pT, n, gn, es, ges, plOf d1, v2, d2, rfl, gr.same sm4, gr2.same sm4, hpT4, lps, hv2.same sm4, fun H5 eT s5 hf2 heT => ?_, fun H5 l num s5 nl hf2 hxr => ?bad⟩
    case bad =>
      refine qe _ l "edges" num (sm4.trans s5) (sm4.free nl) ?_ hxr
      unfold faultM
      rw [if_neg ne1, hf1]
      show (match faultE es ges (plOf d1) d2 with | some num => some (("edges" : Str), num) | none => _) = _
      rw [hf2]
    have sm5 := sm4.trans s5
    have hx5 := s5 _ _ hx4
    refine ⟨_, rfl, x, CM, dx, _, rfl, hx5, GM.cls, GM.edges, by show 3 < 1000; decide, ?_⟩
    have hx6 : (upd H5 x (.ins CM dx [("graph", .ref g), ("goal", .ref gg), ("places", .ref pT), ("edges", .ref eT)])) x = some (.ins CM dx [("graph", .ref g), ("goal", .ref gg), ("places", .ref pT), ("edges", .ref eT)]) := upd_same
    have sm6 : Same H0 (upd H5 x (.ins CM dx [("graph", .ref g), ("goal", .ref gg), ("places", .ref pT), ("edges", .ref eT)])) := same_mut sm5 nx0
    have hpT6 : SqT K (upd H5 x (.ins CM dx [("graph", .ref g), ("goal", .ref gg), ("places", .ref pT), ("edges", .ref eT)])) pT ((plOf d1).map nV) := seqT_mut (Same.seqT s5 hpT4) hx5
    have heT6 : SqT K (upd H5 x (.ins CM dx [("graph", .ref g), ("goal", .ref gg), ("places", .ref pT), ("edges", .ref eT)])) eT ((imOf d2).map optV) := seqT_mut heT hx5
    show tSeq _ _ _ _ (upd H5 x (.ins CM dx [("graph", .ref g), ("goal", .ref gg), ("places", .ref pT), ("edges", .ref eT)]))
    generalize upd H5 x (.ins CM dx [("graph", .ref g), ("goal", .ref gg), ("places", .ref pT), ("edges", .ref eT)]) = H6 at hx6 sm6 hpT6 heT6 ⊢
    obtain ⟨ds2, hr2, eds2, lim, him⟩ := faultE_none hf2
    have h400 : ∀ k, some k ∈ imOf d2 → k < 400 := fun k hk => by
      obtain ⟨i, hi, e⟩ := List.getElem_of_mem hk
      have hi2 : i < es.length := by omega
      obtain ⟨a1, a2⟩ := him i hi2
      by_cases c : (sidesOf (plOf d1) (es.getD i (0, 0))).1 = (sidesOf (plOf d1) (es.getD i (0, 0))).2
      · have := a1 c
        rw [List.getElem?_eq_getElem hi, e] at this
        cases this
      · obtain ⟨j, b1, b2, _⟩ := a2 c
        rw [List.getElem?_eq_getElem hi, e] at b1
        have : k = j := by injection b1 with b1; injection b1
        omega
    -- self.sheets
    refine ⟨_, rfl, _, rfl, _, rfl, x, CM, dx, _, _, rfl, hx6, GM.cls, GM.places, rfl, _, rfl, x, CM, dx, _, _, rfl, hx6, GM.cls, GM.edges, rfl, g, gg, pT, eT, n, gn, es, ges, plOf d1, imOf d2, rfl, gr.same sm6, gr2.same sm6, by omega, hpT6, lps, bps, heT6, lim, h400, fun H7 sT s7 hf3 hsT => ?_, fun H7 l num s7 nl hf3 hxr => ?bad⟩
    case bad =>
      refine qe _ l "sheets" num (sm6.trans s7) (sm6.free nl) ?_ hxr
      unfold faultM
      rw [if_neg ne1, hf1]
      show (match faultE es ges (plOf d1) d2 with | some num => some (("edges" : Str), num) | none => (faultS es (imOf d2) ges (plOf d1) n).map fun num => ("sheets", num)) = _
      rw [hf2]
      show (faultS es (imOf d2) ges (plOf d1) n).map (fun num => (("sheets" : Str), num)) = _
      rw [hf3]; rfl
    have hfM : faultM n es gn ges d1 d2 = none := by
      unfold faultM
      rw [if_neg ne1, hf1]
      show (match faultE es ges (plOf d1) d2 with | some num => some (("edges" : Str), num) | none => (faultS es (imOf d2) ges (plOf d1) n).map fun num => ("sheets", num)) = _
      rw [hf2]
      show (faultS es (imOf d2) ges (plOf d1) n).map (fun num => (("sheets" : Str), num)) = _
      rw [hf3]; rfl
    have sm7 := sm6.trans s7
    have hx7 := s7 _ _ hx6
    refine ⟨_, rfl, x, CM, dx, _, rfl, hx7, GM.cls, GM.sheets, by show 4 < 1000; decide, ?_⟩
    have hx8 : (upd H7 x (.ins CM dx [("graph", .ref g), ("goal", .ref gg), ("places", .ref pT), ("edges", .ref eT), ("sheets", .ref sT)])) x = some (.ins CM dx [("graph", .ref g), ("goal", .ref gg), ("places", .ref pT), ("edges", .ref eT), ("sheets", .ref sT)]) := upd_same
    have sm8 : Same H0 (upd H7 x (.ins CM dx [("graph", .ref g), ("goal", .ref gg), ("places", .ref pT), ("edges", .ref eT), ("sheets", .ref sT)])) := same_mut sm7 nx0
    have hpT8 : SqT K (upd H7 x (.ins CM dx [("graph", .ref g), ("goal", .ref gg), ("places", .ref pT), ("edges", .ref eT), ("sheets", .ref sT)])) pT ((plOf d1).map nV) := seqT_mut (Same.seqT s7 hpT6) hx7
    have heT8 : SqT K (upd H7 x (.ins CM dx [("graph", .ref g), ("goal", .ref gg), ("places", .ref pT), ("edges", .ref eT), ("sheets", .ref sT)])) eT ((imOf d2).map optV) := seqT_mut (Same.seqT s7 heT6) hx7
    have hsT8 : SqT K (upd H7 x (.ins CM dx [("graph", .ref g), ("goal", .ref gg), ("places", .ref pT), ("edges", .ref eT), ("sheets", .ref sT)])) sT ((shOf es (imOf d2) ges (plOf d1) n).map nV) := seqT_mut hsT hx7
    have ep : putF ("sheets" : Str) (V.ref sT) [(("graph" : Str), V.ref g), ("goal", .ref gg), ("places", .ref pT), ("edges", .ref eT)] = ([(("graph" : Str), V.ref g), ("goal", .ref gg), ("places", .ref pT), ("edges", .ref eT), ("sheets", .ref sT)] : List (Str × V)) := rfl
    rw [ep]
    generalize upd H7 x (.ins CM dx [("graph", .ref g), ("goal", .ref gg), ("places", .ref pT), ("edges", .ref eT), ("sheets", .ref sT)]) = H8 at hx8 sm8 hpT8 heT8 hsT8 ⊢
    -- self.degree
    refine ⟨_, rfl, x, CM, dx, _, _, rfl, hx8, GM.cls, GM.edges, rfl, eT, rfl, ⟨_, heT8⟩, fun L nL => ?_⟩
    refine lc_tup (K := K) (a := eT) (xs := (imOf d2).map optV) (fun i H9 => Same H8 H9 ∧ H9 L = some (.lst ((((imOf d2).take i).filter fun o => decide (o = some 0)).map optV))) ⟨same_upd nL, upd_same⟩ (fun i H9 _ p => Same.seqT p.1 heT8) ?_ ?_
    · rintro i y H9 hy ⟨sm, hL⟩
      rw [List.getElem?_map] at hy
      obtain ⟨o, ho, rfl⟩ := Option.map_eq_some_iff.mp hy
      have hi : i < (imOf d2).length := (List.getElem?_eq_some_iff.mp ho).1
      have ef := filter_take (f := fun o : Option Nat => decide (o = some 0)) ho
      have hlen : ((((imOf d2).take i).filter fun o => decide (o = some 0)).map optV).length < sizeLine := size_lt (by
        rw [List.length_map]
        have := List.length_filter_le (fun o : Option Nat => decide (o = some 0)) ((imOf d2).take i)
        rw [List.length_take] at this
        omega)
      refine ⟨rfl, ?_⟩
      cases o with
      | none =>
        refine ⟨_, rfl, rfl, _, rfl, iteF ⟨sm, ?_⟩⟩
        rw [ef, if_neg (by decide), List.append_nil]
        exact hL
      | some k =>
        refine ⟨_, rfl, rfl, _, rfl, ifD (fun e => ?_) (fun ne => ?_)⟩
        · have e : k = 0 := by
            have e : nV k = V.int 0 := e
            injection e with e; omega
          refine ⟨_, rfl, _, hL, hlen, same_mut sm nL, ?_⟩
          rw [upd_same, ef, if_pos (by rw [e]; decide), List.map_append]; rfl
        · refine ⟨sm, ?_⟩
          rw [ef, if_neg (fun z => ne (by
            have z := of_decide_eq_true z
            injection z with z
            rw [z]; rfl)), List.append_nil]
          exact hL
    rintro H9 ⟨sm9, hL⟩
    rw [List.length_map, List.take_length] at hL
    have hx9 := sm9 _ _ hx8
    refine ⟨_, degOf (imOf d2), rfl, .inl ⟨_, SqL.of hL, by rw [List.length_map]; exact List.countP_eq_length_filter⟩, ?_⟩
    refine ⟨_, rfl, x, CM, dx, _, rfl, hx9, GM.cls, GM.degree, by show 5 < 1000; decide, ?_⟩
    refine q _ (same_mut (sm8.trans sm9) nx0) hfM ⟨dx, pT, eT, sT, upd_same, seqT_mut (Same.seqT sm9 hpT8) hx9, seqT_mut (Same.seqT sm9 heT8) hx9, seqT_mut (Same.seqT sm9 hsT8) hx9⟩
end
end G3

set_option Elab.async false
set_option linter.all false
set_option maxRecDepth 100000
set_option maxHeartbeats 4000000
/-! x != y where x's class has an own __eq__ and no own __ne__ -/
namespace PySem.W
open PySem PySem.Calls PyProof.Rows Builtin
section
variable {prog : Program} {w : World} {A : Around} {E : Value → Shared → Prop} {s : Shared} {K : Frag} {x C L f : Addr} {h₀ : Heap} {m : Str → Option Value} {ox : Obj} {od : Option Obj} {b tb : Value}
theorem ifBound_ne {M : Model} {args : List Value} {Q : Option Value → Shared → Prop} (X : K.In s.heap) (I : InstAt s.heap x ox C od) (hs : findIn K (.ref C) "__ne__" = some (some (.builtin "object.__ne__")))
    (h : wpAny M A (call (.builtin "object.__ne__") (.ref x :: args)) (fun v => Q (some v)) E s) : wpAny M A (callSpecialIfBound? (.ref x) "__ne__" args) Q E s := by
  simp only [callSpecialIfBound?, bindSpecialIfBound?]
  refine wpAny_holding (wpAny_bind (wpAny_bind (wpAny_bind (I.type.here ((looks_findIn X hs).here ?_)))))
  refine wpAny_bind (wpAny_askSetting (wpAny_ite ?_))
  have bd : Looks M s.heap (bindSpecial (.builtin "object.__ne__") (.ref x)) (.builtin "object.__ne__", [.ref x]) := Looks.of_pure (PySem.F.cmp_object.ne.bind (.ref x))
  have fin : wpAny M A (call (.builtin "object.__ne__") ([.ref x] ++ args) >>= fun v => pure (some v)) Q E s := wpAny_bind (wpAny_mono h (fun v s' h' => wpAny_pure h') fun _ _ h' => h')
  split
  · exact wpAny_bind (bd.here (wpAny_pure (by exact fin)))
  · exact wpAny_tryCatch (wpAny_bind (bd.here (wpAny_pure (by exact fin))))
theorem ne_entry {Q : Fin → Shared → Prop} (hu : A.units < cLine) (X : K.In s.heap) (I : InstAt s.heap x ox C od) (hs : findIn K (.ref C) "__eq__" = some (some (.ref f))) (hf : isFn K (.ref f) = true)
    (hcall : wpAny (model prog w) A (call (.ref f) [.ref x, b]) (fun v s' => ∃ c, v = .bool c ∧ Q (.done (.ret (.bool (!c)))) s') E s) :
    wpAny (model prog w) A (Builtin.«object.__ne__» ⟨[.ref x, b], []⟩) Q E s := by
  unfold Builtin.«object.__ne__»
  repeat (first
    | with_reducible refine wpAny_cRoomFor hu ?_
    | (refine wpAny_bind (m := callSpecialIfBound? (.ref x) (Str.ofString "__eq__") [b])
        (ifBound_K X I hs hf (wpAny_mono hcall (fun r s' hr => by
          obtain ⟨c, rfl, hq⟩ := hr
          repeat (first | exact hq | exact wpAny_pure hq | exact wpAny_truthy_bool hq | (refine wpAny_bind (m := truthy (.bool _)) (wpAny_truthy_bool ?_)) | wp_step)) fun _ _ e => e)))
    | wp_step)
theorem ne_K {Q : Value → Shared → Prop} (hu : A.units + 1 < cLine) (X : K.In s.heap) (I : InstAt s.heap x ox C od) (hb : Looks (model prog w) s.heap (typeOf b) (.ref C))
    (hn : findIn K (.ref C) "__ne__" = some (some (.builtin "object.__ne__"))) (hs : findIn K (.ref C) "__eq__" = some (some (.ref f))) (hf : isFn K (.ref f) = true) (hm : mroIn K C (.type "object") = some true)
    (h : wpAny (model prog w) A.in1 (call (.ref f) [.ref x, b]) (fun v s' => ∃ c, v = .bool c ∧ Q (.bool (!c)) s') E s) : wpAny (model prog w) A (richCompare .NotEq (.ref x) b) Q E s := by
  have one : wpAny (model prog w) A (tryCompare (.ref x) "__ne__" b) (fun r s' => ∃ v, r = some v ∧ Q v s') E s := by
    simp only [tryCompare]
    refine wpAny_bind (ifBound_ne X I hn (wpAny_call (codeAny_call_builtin PySem.F.cmp_object.ne.plain PySem.F.cmpEntry_ne
      (check_slot PySem.F.cmpKind_ne PySem.F.cmpSplit_ne (I.type.andThen (looks_mroIn X hm)) (PySem.F.cmpArgs_ne _ _) (ne_entry (A := A.in1) hu X I hs hf (wpAny_mono h (fun v s' hv => ?_) fun _ _ e => e))))))
    obtain ⟨c, rfl, hq⟩ := hv
    exact ⟨c, rfl, wpAny_pure ⟨_, rfl, hq⟩⟩
  unfold richCompare
  simp only [oneThing_ref]
  refine wpAny_holding (wpAny_bind (wpAny_cRoomFor (Nat.lt_of_succ_lt hu) ?_))
  refine wpAny_bind (I.type.here (wpAny_bind (hb.here ?_)))
  rw [show (Value.ref C != Value.ref C) = false from by simp]
  simp only [Bool.false_eq_true, if_false]
  refine wpAny_bind (wpAny_pure ?_)
  simp only [Bool.false_eq_true, if_false]
  refine wpAny_bind (wpAny_mono one (fun r s' z => ?_) fun _ _ e => e)
  obtain ⟨v, rfl, hq⟩ := z
  exact wpAny_pure hq
end
end PySem.W
namespace G3
open PySem PySem.Spec PyProof.Rows L2
/-- x != y by the own == of x's class -/
def rNeO (C : Addr) (sp : Sp) : R2 := fun x y H Q => ∃ a b dx dy fs gs, x = .ref a ∧ y = .ref b ∧ H a = some (.ins C dx fs) ∧ H b = some (.ins C dy gs) ∧ sp [.ref a, .ref b] H (fun v H' => ∃ c, v = .bl c ∧ Q (.bl (!c)) H') (fun _ _ _ => False)
theorem op_neO {X : Cx} {k j : Nat} {C : Addr} {ps : List Str} {sp : Sp} (h : HasEq X.prog X.w X.K X.mg X.base k C ps sp) (hr : Room j X.A) (hn : PySem.W.findIn X.K (.ref C) "__ne__" = some (some (.builtin "object.__ne__"))) (hm : PySem.W.mroIn X.K C (.type "object") = some true) (hk : k + 1 ≤ j := by first | decide | omega) : OpR X (compareOp .NotEq) (rNeO C sp) := by
  intro pins s σ H x y u v Q I rx ry hq
  obtain ⟨f, fd, F, hs, hf, hb⟩ := h
  obtain ⟨a, b, dx, dy, fs, gs, rfl, rfl, ha, hb', hsp⟩ := hq
  cases rx
  cases ry
  show wpAny (model X.prog X.w) X.A (richCompare .NotEq (.ref a) (.ref b)) (EP X pins σ Q) X.xe s
  obtain ⟨mA, J, _⟩ := ins_get I.hok ha
  obtain ⟨mB, J', _⟩ := ins_get I.hok hb'
  obtain ⟨od, J, _⟩ := J.look
  obtain ⟨od', J', _⟩ := J'.look
  obtain ⟨m, hF⟩ := I.fr
  have hu0 : X.A.units + 1 < cLine := by have := hr.un; omega
  refine PySem.W.ne_K hu0 I.kIn J J'.type hn hs hf hm ?_
  have hl := F.len _ _ _ _ hsp
  have r2 : Vals [V.ref a, V.ref b] [Value.ref a, Value.ref b] := .cons rfl (.cons rfl .nil)
  refine wpAny_call (codeAny_mono (F.run X.A.in1 X.stack s H ⟨[.ref a, .ref b], []⟩ [.ref a, .ref b] [.ref a, .ref b] _ _ (hr.mono hk).in1 I.env0.in1 (by
    have := hb s [.ref a, .ref b] I.kIn (by simpa using hl)
    simpa using this) r2 hsp) fun r s' hq => ?_)
  cases r with
  | error e => exact False.elim hq
  | ok fl =>
    cases fl with
    | ret w =>
      obtain ⟨z, H', I', rz, ⟨c, ez, q⟩⟩ := I.after hq
      subst ez
      cases rz
      exact ⟨c, rfl, .bl (!c), H', I', rfl, q⟩
    | next => exact False.elim hq
    | brk => exact False.elim hq
    | cont => exact False.elim hq
end G3

set_option Elab.async false
set_option linter.all false
set_option maxRecDepth 100000
set_option maxHeartbeats 4000000
namespace G3
open PySem PySem.Spec PyProof.Rows L2
/-! ## all but dicts is kept -/
def Kp (H H' : Hp) : Prop := (∀ a o, H a = some o → (∀ ks, o ≠ .dK ks) → H' a = some o) ∧ ∀ a, H' a = none → H a = none
theorem Kp.refl (H : Hp) : Kp H H := ⟨fun _ _ e _ => e, fun _ e => e⟩
theorem Kp.trans {H H1 H2 : Hp} (a : Kp H H1) (b : Kp H1 H2) : Kp H H2 := ⟨fun x o e n => b.1 x o (a.1 x o e n) n, fun x e => a.2 x (b.2 x e)⟩
theorem Same.kp {H H' : Hp} (s : Same H H') : Kp H H' := ⟨fun x o e _ => s x o e, fun x e => s.free e⟩
theorem kp_but {H H' : Hp} {kd : Addr} {ks ks' : List (L2.Key × V)} (b : But (· = kd) H H') (h : H kd = some (.dK ks)) (h' : H' kd = some (.dK ks')) : Kp H H' := ⟨fun x o e n => b x o (fun z => by rw [z, h] at e; cases e; exact n _ rfl) e, fun x e => by
  by_cases c : x = kd
  · rw [c, h'] at e; cases e
  · cases hx : H x with
    | none => rfl
    | some o => rw [b x o c hx] at e; cases e⟩
theorem Kp.lst {H H' : Hp} {a : Addr} {xs : List V} (k : Kp H H') (h : H a = some (.lst xs)) : H' a = some (.lst xs) := k.1 _ _ h fun _ z => by cases z
theorem Kp.tup {H H' : Hp} {a : Addr} {xs : List V} (k : Kp H H') (h : H a = some (.tup xs)) : H' a = some (.tup xs) := k.1 _ _ h fun _ z => by cases z
theorem Kp.ins {H H' : Hp} {a C dx : Addr} {fs : List (Str × V)} (k : Kp H H') (h : H a = some (.ins C dx fs)) : H' a = some (.ins C dx fs) := k.1 _ _ h fun _ z => by cases z
theorem kp_mut {H H1 : Hp} {L : Addr} {o : HO} (k : Kp H H1) (n : H L = none) : Kp H (upd H1 L o) := ⟨fun x y e m => by
  have : x ≠ L := fun z => by rw [z, n] at e; cases e
  rw [upd_ne this]; exact k.1 x y e m, fun x e => by
  by_cases c : x = L
  · rw [c]; exact n
  · rw [upd_ne c] at e; exact k.2 x e⟩
theorem Kp.seqT {K : PySem.W.Frag} {H H' : Hp} {a : Addr} {xs : List V} (k : Kp H H') (h : SqT K H a xs) : SqT K H' a xs := by
  rcases h with (h | ⟨u, h⟩) | h
  · exact .inl (.inl (k.tup h))
  · exact .inl (.inr ⟨u, k.1 _ _ h fun _ z => by cases z⟩)
  · exact .inr h
theorem Kp.prs {H H' : Hp} {vs : List V} {es : List Pr} (k : Kp H H') (h : Prs H vs es) : Prs H' vs es := h.mono fun _ _ _ e => k.tup e
theorem Kp.pl {H H' : Hp} {a : Addr} {es : List Pr} (k : Kp H H') (h : PLst H a es) : PLst H' a es := by
  obtain ⟨vs, h1, h2⟩ := h
  exact ⟨vs, k.lst h1, k.prs h2⟩
theorem Kp.grAt {H H' : Hp} {C g kd : Addr} {n : Nat} {es : List Pr} (k : Kp H H') (h : GrAt H C g n es kd) : GrAt H' C g n es kd := by
  obtain ⟨dx, eT, vs, h1, h2, h3⟩ := h
  exact ⟨dx, eT, vs, k.ins h1, k.tup h2, k.prs h3⟩
theorem Kp.gk {H H' : Hp} {C g : Addr} {n : Nat} {es : List Pr} (k : Kp H H') (h : Gk H C g n es) : Gk H' C g n es := ⟨h.1.imp fun _ h => k.grAt h, h.2⟩
theorem Kp.gmap {K : PySem.W.Frag} {H H' : Hp} {CM x g gg : Addr} {ps : List Nat} {im : List (Option Nat)} {sh : List Nat} (k : Kp H H') (h : GMap K H CM x g gg ps im sh) : GMap K H' CM x g gg ps im sh := by
  obtain ⟨dx, pT, eT, sT, h1, h2, h3, h4⟩ := h
  exact ⟨dx, pT, eT, sT, k.ins h1, k.seqT h2, k.seqT h3, k.seqT h4⟩
/-! ## what is kept: the table of Laplace -/
def val (es : List Pr) (v : Nat) : Nat := es.countP fun e => decide (e.1 = v) || decide (e.2 = v)
theorem val_take {es : List Pr} {i v : Nat} {e : Pr} (he : es[i]? = some e) (ne : e.1 ≠ e.2) : val (es.take (i + 1)) v = val (es.take i) v + ((if e.1 = v then 1 else 0) + if e.2 = v then 1 else 0) := by
  unfold val
  rw [List.take_add_one, he, List.countP_append]
  congr 1
  show List.countP _ [e] = _
  rw [List.countP_cons, List.countP_nil, Nat.zero_add]
  by_cases h1 : e.1 = v
  · have h2 : ¬ e.2 = v := fun z => ne (h1.trans z.symm)
    simp [h1, h2]
  · by_cases h2 : e.2 = v
    · simp [h1, h2]
    · simp [h1, h2]
def LapRow (H : Hp) (n : Nat) (es : List Pr) (v : V) (i : Nat) : Prop := ∃ (a : Addr) (xs : List Int), v = .ref a ∧ H a = some (.tup (xs.map V.int)) ∧ xs.length = n ∧ xs[i]? = some ((val es i : Nat) : Int)
def LapAt (H : Hp) (t n : Nat) (es : List Pr) : Prop := ∃ rs, H t = some (.tup rs) ∧ All2 (LapRow H n es) rs (List.range n)
theorem Kp.lap {H H' : Hp} {t n : Nat} {es : List Pr} (k : Kp H H') (h : LapAt H t n es) : LapAt H' t n es := by
  obtain ⟨rs, h1, h2⟩ := h
  exact ⟨rs, k.tup h1, h2.mono fun v i ⟨a, xs, e1, e2, e3⟩ => ⟨a, xs, e1, k.tup e2, e3⟩⟩
def Kpt (H : Hp) (C g kd : Addr) (n : Nat) (es : List Pr) : Prop := Gk H C g n es ∧ GrAt H C g n es kd ∧ ∃ ks, H kd = some (.dK ks) ∧ (ks = [] ∨ ∃ t, ks = [((Sum.inr "laplace" : L2.Key), V.ref t)] ∧ LapAt H t n es)
theorem Kpt.but {H H' : Hp} {C g kd : Addr} {n : Nat} {es : List Pr} (h : Kpt H C g kd n es) (k : Kp H H') (e : ∀ o, H kd = some o → H' kd = some o) : Kpt H' C g kd n es := by
  obtain ⟨h1, h2, ks, h3, h4⟩ := h
  exact ⟨k.gk h1, k.grAt h2, ks, e _ h3, h4.imp id fun ⟨t, a, b⟩ => ⟨t, a, k.lap b⟩⟩
theorem Kpt.same {H H' : Hp} {C g kd : Addr} {n : Nat} {es : List Pr} (h : Kpt H C g kd n es) (s : Same H H') : Kpt H' C g kd n es := h.but (Same.kp s) fun o e => s _ _ e
theorem Kpt.kp {H H' : Hp} {C g kd : Addr} {n : Nat} {es : List Pr} (h : Kpt H C g kd n es) (h' : Kpt H' C g kd n es) (b : But (· = kd) H H') : Kp H H' := by
  obtain ⟨_, _, ks, h3, _⟩ := h
  obtain ⟨_, _, ks', h3', _⟩ := h'
  exact kp_but b h3 h3'
/-! rows of ints, one number changed -/
def gi (l : List Int) (i : Nat) : Int := l.getD i 0
theorem gi_get {l : List Int} {i : Nat} (h : i < l.length) : l[i]? = some (gi l i) := by
  unfold gi
  rw [List.getD_eq_getElem?_getD, List.getElem?_eq_getElem h]; rfl
theorem rep_flatI (v : V) (k : Nat) : (List.replicate ((k : Nat) : Int).toNat [v]).flatten = List.replicate k v := by
  rw [Int.toNat_natCast]
  induction k with
  | zero => rfl
  | succ k ih => rw [List.replicate_succ, List.flatten_cons, ih, List.replicate_succ]; rfl
theorem rowI_get {l : List Int} {i : Nat} (h : i < l.length) : (l.map V.int)[i]? = some (.int (gi l i)) := by rw [List.getElem?_map, gi_get h]; rfl
def setR (cs : Nat → List Int) (p q : Nat) (c : Int) : Nat → List Int := fun v => if v = p then (cs p).set q (gi (cs p) q + c) else cs v
theorem setR_len {cs : Nat → List Int} {n p q : Nat} {c : Int} (h : ∀ v, (cs v).length = n) : ∀ v, (setR cs p q c v).length = n := fun v => by
  unfold setR
  split
  · rw [List.length_set]; exact h p
  · exact h v
theorem setR_gi {cs : Nat → List Int} {n p q v r : Nat} {c : Int} (h : ∀ v, (cs v).length = n) (hr : r < n) : gi (setR cs p q c v) r = gi (cs v) r + if v = p ∧ r = q then c else 0 := by
  unfold setR
  by_cases hv : v = p
  · subst hv
    rw [if_pos rfl]
    have hl : r < (cs v).length := by rw [h v]; exact hr
    have h1 := gi_get (l := (cs v).set q (gi (cs v) q + c)) (i := r) (by rw [List.length_set]; exact hl)
    rw [List.getElem?_set] at h1
    by_cases hq : q = r
    · subst hq
      rw [if_pos rfl, if_pos hl] at h1
      rw [if_pos ⟨rfl, rfl⟩]
      exact (Option.some.inj h1).symm
    · rw [if_neg hq, gi_get hl] at h1
      rw [if_neg (fun z => hq z.2.symm), Int.add_zero]
      exact (Option.some.inj h1).symm
  · rw [if_neg hv, if_neg (fun z => hv z.1), Int.add_zero]
def rowI (cs : Nat → List Int) : Nat → HO := fun v => .lst ((cs v).map V.int)
theorem rows_setR {H : Hp} {B : Addr} {as : List Addr} {cs : Nat → List Int} {p q : Nat} {c : Int} (h : Rows H B as (rowI cs)) (hp : p < as.length) : Rows (upd H as[p] (.lst (((cs p).set q (gi (cs p) q + c)).map V.int))) B as (rowI (setR cs p q c)) := by
  refine (h.set (List.getElem?_eq_getElem hp)).to fun v hv => ?_
  show (if v = p then _ else rowI cs v) = rowI (setR cs p q c) v
  unfold rowI setR
  split <;> rfl
section
variable {P : Program} {w : World} {K : PySem.W.Frag} {mg : Str → Option Value} {base : Heap} {C : Addr}
abbrev n_laplace : List Str := ["graph", "rows", "one", "other", "place", "line"]
abbrev p_laplace : List Str := ["graph"]
theorem sc_laplace : FnScope n_laplace p_laplace (defScope s_laplace) := ⟨rfl, rfl, rfl, by decide +kernel, rfl, by decide +kernel, by decide +kernel⟩
def spLap (C : Addr) : Sp := fun vs H Q _ => ∃ (g kd : Addr) (n : Nat) (es : List Pr), vs = [.ref g] ∧ Kpt H C g kd n es ∧ ∀ (H' : Hp) (t : Addr), But (· = kd) H H' → Kpt H' C g kd n es → LapAt H' t n es → Q (.ref t) H'
theorem ok_laplace (D : DefAt K mg "laplace" "laplace" s_laplace) (B : Bt mg) (G : GraphC K C) : Has P w K mg base CX0 1 "laplace" p_laplace (spLap C) := by
  refine has_of D sc_laplace (fun _ _ _ _ _ _ us hl => match us, hl with | [_], _ => rfl) (fun vs H Q E h => ?_) (fun f cdv A outer s H vs Q E hr h => ?_)
  · obtain ⟨g, kd, n, es, rfl, _⟩ := h
    rfl
  · obtain ⟨g, kd, n, es, rfl, kp, q⟩ := h
    have hu : (cxOf CX0 P w K mg base n_laplace "laplace" (defScope s_laplace) f cdv A outer s H E).nox.A.units + 1 < cLine := Nat.lt_of_le_of_lt (Nat.add_le_add_left (by decide : 1 ≤ 64) _) hr.units
    refine ⟨_, (Evl.pss_cut (ps_if (pt_cmp (pc_dnotin hu pe_str (fldK (K := K) rfl (pv 0) rfl))) (pss_cons (ps_setLc (i := 1) (own := [("place", 4)]) (g := gName 4) (tt := tYes) rfl sc_laplace.nd rfl rfl (sw_true rfl rfl rfl (by decide +kernel)) (pi_range1 rfl B.range (pa_cons (fldK (K := K) rfl (pv 0) rfl) pa_nil)) (blkOk_by (N := n_laplace) (sc := defScope s_laplace) (by decide +kernel)) (fun _ _ _ _ _ => (pg_name (i := 4) sc_laplace.nd rfl (.inl rfl))) (fun _ _ _ _ _ => pts_nil) (fun _ _ _ _ _ => (pe_op op_rep (pe_lst (pa_cons pe_int pa_nil)) (fldK (K := K) rfl (pv 0) rfl))))
  (pss_cons (ps_for PassesOwn.never rfl (piT (K := K) rfl (fldK (K := K) rfl (pv 0) rfl)) (pgT (K := K) (n := 2) rfl rfl (pgs_cons (pg_name (i := 2) sc_laplace.nd rfl (.inl rfl)) (pgs_cons (pg_name (i := 3) sc_laplace.nd rfl (.inl rfl)) pgs_nil))) (pss_cons (ps_asg (pe_op op_add (pe_ix (ixL (K := K) rfl) (pe_ix (ixL (K := K) rfl) (pv 1) (pv 2) (fun _ _ => rfl)) (pv 2) (fun _ _ => rfl)) pe_int) (pg_sub (pe_ix (ixL (K := K) rfl) (pv 1) (pv 2) (fun _ _ => rfl)) (pv 2) set_list))
  (pss_cons (ps_asg (pe_op op_add (pe_ix (ixL (K := K) rfl) (pe_ix (ixL (K := K) rfl) (pv 1) (pv 3) (fun _ _ => rfl)) (pv 3) (fun _ _ => rfl)) pe_int) (pg_sub (pe_ix (ixL (K := K) rfl) (pv 1) (pv 3) (fun _ _ => rfl)) (pv 3) set_list))
  (pss_cons (ps_asg (pe_op op_sub (pe_ix (ixL (K := K) rfl) (pe_ix (ixL (K := K) rfl) (pv 1) (pv 2) (fun _ _ => rfl)) (pv 3) (fun _ _ => rfl)) pe_int) (pg_sub (pe_ix (ixL (K := K) rfl) (pv 1) (pv 2) (fun _ _ => rfl)) (pv 3) set_list))
  (pss_one (ps_asg (pe_op op_sub (pe_ix (ixL (K := K) rfl) (pe_ix (ixL (K := K) rfl) (pv 1) (pv 3) (fun _ _ => rfl)) (pv 2) (fun _ _ => rfl)) pe_int) (pg_sub (pe_ix (ixL (K := K) rfl) (pv 1) (pv 3) (fun _ _ => rfl)) (pv 2) set_list)))))))
  (pss_one (ps_dput hu (fldK (K := K) rfl (pv 0) rfl) pe_str (pe_callTy (tupK (K := K) rfl) rfl B.tuple (by decide +kernel) (pa_cons (pe_lc (own := [("line", 5)]) (g := gName 5) (tt := tYes) rfl sc_laplace.nd (piL (K := K) rfl (pv 1)) (blkOk_by (N := n_laplace) (sc := defScope s_laplace) (by decide +kernel)) (fun _ _ _ _ _ => (pg_name (i := 5) sc_laplace.nd rfl (.inl rfl))) (fun _ _ _ _ _ => pts_nil) (fun _ _ _ _ _ => (pe_callTy (tupK (K := K) rfl) rfl B.tuple (by decide +kernel) (pa_cons (pv 5) pa_nil)))) pa_nil)) rfl)))) pss_nil)
  (pss_one (ps_ret (pe_dget hu (fldK (K := K) rfl (pv 0) rfl) pe_str (fun _ _ => rfl))))), ?_⟩
    obtain ⟨gk, ⟨dx, eT, vs, hg, heT, hvs⟩, ks, hkd, hks⟩ := id kp
    obtain ⟨_, good, hn1, hn64, he4, _⟩ := gk
    refine ⟨fun σ' H' => ∃ (y z u t r : Option V) (tl : Addr), σ' = [some (.ref g), y, z, u, t, r] ∧ But (· = kd) H H' ∧ GrAt H' C g n es kd ∧ H' kd = some (.dK [((Sum.inr "laplace" : L2.Key), V.ref tl)]) ∧ LapAt H' tl n es, ?_, ?_⟩
    · refine ⟨_, rfl, g, C, dx, _, _, rfl, hg, G.cls, G.kept, rfl, kd, _, rfl, DGet.k (k := Sum.inr "laplace") hkd, _, rfl, ?_⟩
      rcases hks with rfl | ⟨tl, rfl, hlap⟩
      case inr =>
        exact iteF ⟨_, _, _, _, _, tl, rfl, But.refl, ⟨dx, eT, vs, hg, heT, hvs⟩, hkd, hlap⟩
      refine iteT ?_
      have edg : ∀ e ∈ es, e.1 < n ∧ e.2 < n := fun e he => by have := good.1 e he; omega
      refine ⟨_, rfl, g, C, dx, _, _, rfl, hg, G.cls, G.n, rfl, n, rfl, by omega, by omega, fun B0 nB => ?_⟩
      refine lc_range (lo := 0) (n := n) (fun i H2 => Same H H2 ∧ ∃ as, as.length = i ∧ Rows H2 B0 as (rowI fun _ => List.replicate n 0) ∧ ∀ a ∈ as, H a = none) ⟨same_upd nB, [], rfl, Rows.nil, fun a h => nomatch h⟩ ?_ ?_
      · rintro i H2 hi ⟨sm, as, las, ro, fr⟩
        refine ⟨rfl, yes_ ?_⟩
        refine ⟨by show 1 ≤ sizeLine; decide, fun z nz => ?_⟩
        have sz : Same H2 (upd H2 z (.lst [.int 0])) := same_upd nz
        have hz : (upd H2 z (.lst [.int 0])) z = some (.lst [.int 0]) := upd_same
        generalize upd H2 z (.lst [.int 0]) = H3 at sz hz
        refine ⟨_, rfl, g, C, dx, _, _, rfl, (sm.trans sz) _ _ hg, G.cls, G.n, rfl, z, n, [.int 0], rfl, rfl, hz, by omega, by omega, size_le (by show 1 * _ ≤ _; omega), fun a na => ?_⟩
        rw [rep_flatI]
        have er : List.replicate n (V.int 0) = (List.replicate n (0 : Int)).map V.int := by rw [List.map_replicate]
        rw [er]
        obtain ⟨p1, p2⟩ := (ro.same sz).push (o := .lst ((List.replicate n (0 : Int)).map V.int)) na rfl
        refine ⟨_, p1, size_lt (by rw [List.length_map]; omega), same_mut ((sm.trans sz).trans (same_upd na)) nB, as ++ [a], by rw [List.length_append, las]; rfl, p2, fun x hx => ?_⟩
        rcases List.mem_append.mp hx with hx | hx
        · exact fr x hx
        · rw [List.mem_singleton.mp hx]; exact (sm.trans sz).free na
      rintro H2 ⟨sm2, as, las, ro, fr⟩
      have notAs : ∀ x o, H x = some o → ¬ x ∈ as := fun x o e z => by
        have := fr x z
        rw [e] at this; cases this
      refine ⟨_, rfl, g, C, dx, _, _, rfl, sm2 _ _ hg, G.cls, G.edges, rfl, eT, rfl, ⟨_, SqT.of (sm2 _ _ heT)⟩, ?_⟩
      refine for_tup (K := K) (a := eT) (xs := vs) (fun i σ H' => ∃ (y z t r : Option V) (cs : Nat → List Int), σ = [some (.ref g), some (.ref B0), y, z, t, r] ∧ But (· ∈ as) H2 H' ∧ Rows H' B0 as (rowI cs) ∧ (∀ v, (cs v).length = n) ∧ ∀ v, v < n → gi (cs v) v = ((val (es.take i) v : Nat) : Int)) ?_ ?_ ?_ ?_
      · refine ⟨_, _, _, _, fun _ => List.replicate n 0, rfl, But.refl, ro, fun v => List.length_replicate, fun v hv => ?_⟩
        unfold gi
        rw [List.getD_eq_getElem?_getD, List.getElem?_replicate, if_pos hv]; rfl
      · rintro i σ H' hi ⟨_, _, _, _, _, _, bt, _⟩
        exact SqT.of (bt _ _ (notAs _ _ heT) (sm2 _ _ heT))
      · rintro i x σ H' hx ⟨y, z, t, r, cs, rfl, bt, ro0, len0, hd⟩
        have hi : i < es.length := by rw [← hvs.len]; exact (List.getElem?_eq_some_iff.mp hx).1
        obtain ⟨t, e1, e2⟩ := hvs.get hi
        rw [hx] at e1
        obtain rfl := Option.some.inj e1
        obtain ⟨b1, b2⟩ := good.1 _ (List.getElem_mem hi)
        have hes : es[i]? = some es[i] := List.getElem?_eq_getElem hi
        generalize es[i] = e at e2 b1 b2 hes
        obtain ⟨a, b⟩ := e
        have ht : H' t = some (.tup [nV a, nV b]) := bt _ _ (notAs _ _ e2) (sm2 _ _ e2)
        refine ⟨t, _, rfl, SqT.of ht, rfl, _, _, rfl, _, _, rfl, rfl, ?_⟩
        have b1 : a < b := b1
        have b2 : b < n := b2
        have la : a < as.length := by omega
        have lb : b < as.length := by omega
        have an : a < n := by omega
        have ha0 := (ro0.at la).2
        refine ⟨_, rfl, _, rfl, _, _, a, .ref as[a], rfl, rfl, SqL.of ro0.1, atI_nat (rows_get la), _, rfl, _, _, a, _, rfl, rfl, SqL.of ha0, atI_nat (rowI_get (by rw [len0 a]; exact an)), _, _, rfl, rfl, ?_⟩
        refine ⟨_, rfl, _, rfl, _, _, a, .ref as[a], rfl, rfl, SqL.of ro0.1, atI_nat (rows_get la), _, rfl, as[a], _, a, a, rfl, rfl, ha0, Evl.ixN_nat (by rw [List.length_map, len0 a]; exact an), ?_⟩
        rw [← List.map_set (f := V.int)]
        have ro1 := rows_setR (q := a) (c := 1) ro0 la
        have len1 := setR_len (p := a) (q := a) (c := 1) len0
        have m1 : But (· ∈ as) H' (upd H' as[a] (.lst (((cs a).set a (gi (cs a) a + 1)).map V.int))) := But.mut (X := (· ∈ as)) (List.getElem_mem la)
        generalize upd H' as[a] (.lst (((cs a).set a (gi (cs a) a + 1)).map V.int)) = H3 at ro1 m1 ⊢
        have hcs1 : ∀ v r, r < n → gi (setR cs a a 1 v) r = gi (cs v) r + if v = a ∧ r = a then 1 else 0 := fun v r hr => setR_gi len0 hr
        generalize setR cs a a 1 = c1 at ro1 len1 hcs1
        have ha1 := (ro1.at lb).2
        refine ⟨_, rfl, _, rfl, _, _, b, .ref as[b], rfl, rfl, SqL.of ro1.1, atI_nat (rows_get lb), _, rfl, _, _, b, _, rfl, rfl, SqL.of ha1, atI_nat (rowI_get (by rw [len1 b]; exact b2)), _, _, rfl, rfl, ?_⟩
        refine ⟨_, rfl, _, rfl, _, _, b, .ref as[b], rfl, rfl, SqL.of ro1.1, atI_nat (rows_get lb), _, rfl, as[b], _, b, b, rfl, rfl, ha1, Evl.ixN_nat (by rw [List.length_map, len1 b]; exact b2), ?_⟩
        rw [← List.map_set (f := V.int)]
        have ro2 := rows_setR (q := b) (c := 1) ro1 lb
        have len2 := setR_len (p := b) (q := b) (c := 1) len1
        have m2 : But (· ∈ as) H3 (upd H3 as[b] (.lst (((c1 b).set b (gi (c1 b) b + 1)).map V.int))) := But.mut (X := (· ∈ as)) (List.getElem_mem lb)
        generalize upd H3 as[b] (.lst (((c1 b).set b (gi (c1 b) b + 1)).map V.int)) = H4 at ro2 m2 ⊢
        have hcs2 : ∀ v r, r < n → gi (setR c1 b b 1 v) r = gi (c1 v) r + if v = b ∧ r = b then 1 else 0 := fun v r hr => setR_gi len1 hr
        generalize setR c1 b b 1 = c2 at ro2 len2 hcs2
        have ha2 := (ro2.at la).2
        refine ⟨_, rfl, _, rfl, _, _, a, .ref as[a], rfl, rfl, SqL.of ro2.1, atI_nat (rows_get la), _, rfl, _, _, b, _, rfl, rfl, SqL.of ha2, atI_nat (rowI_get (by rw [len2 a]; exact b2)), _, _, rfl, rfl, ?_⟩
        refine ⟨_, rfl, _, rfl, _, _, a, .ref as[a], rfl, rfl, SqL.of ro2.1, atI_nat (rows_get la), _, rfl, as[a], _, b, b, rfl, rfl, ha2, Evl.ixN_nat (by rw [List.length_map, len2 a]; exact b2), ?_⟩
        rw [← List.map_set (f := V.int)]
        have ro3 := rows_setR (q := b) (c := -1) ro2 la
        have len3 := setR_len (p := a) (q := b) (c := -1) len2
        have m3 : But (· ∈ as) H4 (upd H4 as[a] (.lst (((c2 a).set b (gi (c2 a) b + -1)).map V.int))) := But.mut (X := (· ∈ as)) (List.getElem_mem la)
        have es3 : gi (c2 a) b - 1 = gi (c2 a) b + -1 := by omega
        rw [es3]
        generalize upd H4 as[a] (.lst (((c2 a).set b (gi (c2 a) b + -1)).map V.int)) = H5 at ro3 m3 ⊢
        have hcs3 : ∀ v r, r < n → gi (setR c2 a b (-1) v) r = gi (c2 v) r + if v = a ∧ r = b then -1 else 0 := fun v r hr => setR_gi len2 hr
        generalize setR c2 a b (-1) = c3 at ro3 len3 hcs3
        have ha3 := (ro3.at lb).2
        refine ⟨_, rfl, _, rfl, _, _, b, .ref as[b], rfl, rfl, SqL.of ro3.1, atI_nat (rows_get lb), _, rfl, _, _, a, _, rfl, rfl, SqL.of ha3, atI_nat (rowI_get (by rw [len3 b]; exact an)), _, _, rfl, rfl, ?_⟩
        refine ⟨_, rfl, _, rfl, _, _, b, .ref as[b], rfl, rfl, SqL.of ro3.1, atI_nat (rows_get lb), _, rfl, as[b], _, a, a, rfl, rfl, ha3, Evl.ixN_nat (by rw [List.length_map, len3 b]; exact an), ?_⟩
        rw [← List.map_set (f := V.int)]
        have ro4 := rows_setR (q := a) (c := -1) ro3 lb
        have len4 := setR_len (p := b) (q := a) (c := -1) len3
        have m4 : But (· ∈ as) H5 (upd H5 as[b] (.lst (((c3 b).set a (gi (c3 b) a + -1)).map V.int))) := But.mut (X := (· ∈ as)) (List.getElem_mem lb)
        have es4 : gi (c3 b) a - 1 = gi (c3 b) a + -1 := by omega
        rw [es4]
        generalize upd H5 as[b] (.lst (((c3 b).set a (gi (c3 b) a + -1)).map V.int)) = H6 at ro4 m4 ⊢
        have hcs4 : ∀ v r, r < n → gi (setR c3 b a (-1) v) r = gi (c3 v) r + if v = b ∧ r = a then -1 else 0 := fun v r hr => setR_gi len3 hr
        generalize setR c3 b a (-1) = c4 at ro4 len4 hcs4
        refine ⟨_, _, _, _, c4, rfl, ((((bt.trans m1).trans m2).trans m3).trans m4), ro4, len4, fun v hv => ?_⟩
        have n4 : ¬ (v = b ∧ v = a) := fun z => by omega
        have n3 : ¬ (v = a ∧ v = b) := fun z => by omega
        rw [hcs4 v v hv, hcs3 v v hv, hcs2 v v hv, hcs1 v v hv, hd v hv, val_take hes (by show a ≠ b; omega), if_neg n4, if_neg n3]
        show _ = (((val (es.take i) v + ((if a = v then 1 else 0) + if b = v then 1 else 0) : Nat) : Int))
        by_cases c1 : v = a
        · have p1 : v = a ∧ v = a := ⟨c1, c1⟩
          have n2 : ¬ (v = b ∧ v = b) := fun z => by omega
          have q2 : ¬ b = v := by omega
          rw [if_pos p1, if_neg n2, if_pos c1.symm, if_neg q2]; omega
        · have n1 : ¬ (v = a ∧ v = a) := fun z => c1 z.1
          have q1 : ¬ a = v := fun z => c1 z.symm
          by_cases c2 : v = b
          · have p2 : v = b ∧ v = b := ⟨c2, c2⟩
            rw [if_neg n1, if_pos p2, if_neg q1, if_pos c2.symm]; omega
          · have n2 : ¬ (v = b ∧ v = b) := fun z => c2 z.1
            have q2 : ¬ b = v := fun z => c2 z.symm
            rw [if_neg n1, if_neg n2, if_neg q1, if_neg q2]; omega
      · rintro σ H3 ⟨y, z, t, r, cs, rfl, bt, ro', len', hd⟩
        rw [hvs.len, List.take_length] at hd
        have s3 : Same H H3 := bt.same sm2 fr
        refine ⟨_, rfl, B0, rfl, ⟨_, SqL.of ro'.1⟩, fun L nL => ?_⟩
        refine lc_list (K := K) (a := B0) (xs := as.map V.ref) (fun i H4 => Same H3 H4 ∧ ∃ rs, H4 L = some (.lst rs) ∧ All2 (LapRow H4 n es) rs (List.range i)) ⟨same_upd nL, [], upd_same, True.intro⟩ (fun i H4 _ p => SqL.of (p.1 _ _ ro'.1)) ?_ ?_
        · rintro i x H4 hx ⟨sm, rs, hL, hrs⟩
          have hi : i < as.length := by have := (List.getElem?_eq_some_iff.mp hx).1; rwa [List.length_map] at this
          rw [rows_get hi] at hx
          obtain rfl := Option.some.inj hx
          have hin : i < n := by omega
          refine ⟨rfl, yes_ ?_⟩
          have hai := sm _ _ (ro'.at hi).2
          refine ⟨_, rfl, as[i], _, rfl, .inl ⟨SqL.of hai, fun T nT => ?_⟩⟩
          have sT : Same H4 (upd H4 T (.tup ((cs i).map V.int))) := same_upd nT
          have hT : (upd H4 T (.tup ((cs i).map V.int))) T = some (.tup ((cs i).map V.int)) := upd_same
          have hL4 := sT _ _ hL
          have lr : rs.length = i := by rw [hrs.len, List.length_range]
          refine ⟨_, hL4, size_lt (by omega), same_mut (sm.trans sT) nL, rs ++ [.ref T], upd_same, ?_⟩
          rw [List.range_succ]
          have neL : ∀ x xs, (upd H4 T (.tup ((cs i).map V.int))) x = some (.tup xs) → x ≠ L := fun x xs e z => by rw [z, hL4] at e; cases e
          have hm : All2 (LapRow (upd (upd H4 T (.tup ((cs i).map V.int))) L (.lst (rs ++ [.ref T]))) n es) rs (List.range i) := hrs.mono fun v j ⟨a, xs, g1, g2, g3⟩ => ⟨a, xs, g1, by
            have := sT _ _ g2
            rw [upd_ne (neL _ _ this)]; exact this, g3⟩
          exact All2.snoc hm ⟨T, cs i, rfl, by rw [upd_ne (neL _ _ hT)]; exact hT, len' i, by rw [gi_get (by rw [len' i]; exact hin), hd i hin]⟩
        · rintro H4 ⟨sm, rs, hL, hrs⟩
          rw [List.length_map, las] at hrs
          refine ⟨L, rs, rfl, .inl ⟨SqL.of hL, fun tl ntl => ?_⟩⟩
          have st : Same H4 (upd H4 tl (.tup rs)) := same_upd ntl
          have s5 := (s3.trans sm).trans st
          have htl : (upd H4 tl (.tup rs)) tl = some (.tup rs) := upd_same
          have hrs5 : All2 (LapRow (upd H4 tl (.tup rs)) n es) rs (List.range n) := hrs.mono fun v j ⟨a, xs, g1, g2, g3⟩ => ⟨a, xs, g1, st _ _ g2, g3⟩
          generalize upd H4 tl (.tup rs) = H5 at st s5 htl hrs5 ⊢
          refine ⟨_, rfl, g, C, dx, _, _, rfl, s5 _ _ hg, G.cls, G.kept, rfl, kd, _, rfl, DPut.k (k := Sum.inr "laplace") (s5 _ _ hkd) (by show 0 < sizeLine; decide), ?_⟩
          have bk : But (· = kd) H5 (upd H5 kd (.dK [((Sum.inr "laplace" : L2.Key), V.ref tl)])) := But.mut (X := (· = kd)) rfl
          have kk : Kp H5 (upd H5 kd (.dK [((Sum.inr "laplace" : L2.Key), V.ref tl)])) := kp_but bk (s5 _ _ hkd) upd_same
          exact ⟨_, _, _, _, _, tl, rfl, (Same.but s5).trans bk, kk.grAt ⟨dx, eT, vs, s5 _ _ hg, s5 _ _ heT, hvs.same s5⟩, upd_same, kk.lap ⟨rs, htl, hrs5⟩⟩
    · rintro σ' H' ⟨y, z, u, t, r, tl, rfl, bt, gr', hkd', hlap⟩
      have kk : Kp H H' := kp_but bt hkd hkd'
      have gr2 := gr'
      obtain ⟨dx', eT', vs', hg', _, _⟩ := gr'
      refine ⟨_, rfl, g, C, dx', _, _, rfl, hg', G.cls, G.kept, rfl, kd, _, rfl, DGet.k (k := Sum.inr "laplace") hkd', ?_⟩
      exact q H' tl bt ⟨kk.gk kp.1, gr2, _, hkd', .inr ⟨tl, rfl, hlap⟩⟩ hlap
end
end G3

set_option Elab.async false
set_option linter.all false
set_option maxRecDepth 100000
set_option maxHeartbeats 4000000
/-! zip of a tuple and a list -/
namespace G3
open PySem PySem.Spec PyProof.Rows L2
def ItzM (K : PySem.W.Frag) (a b : Addr) : It :=
  ⟨fun i H => ∃ (xs ys : List V) (x y : V), SqT K H a xs ∧ SqL K H b ys ∧ xs[i]? = some x ∧ ys[i]? = some y,
    fun i H v H' => ∃ T x y, v = .ref T ∧ H T = none ∧ H' = upd H T (.tup [x, y]) ∧ (∀ xs, SqT K H a xs → xs[i]? = some x) ∧ ∀ ys, SqL K H b ys → ys[i]? = some y,
    fun i H => ∃ xs ys : List V, SqT K H a xs ∧ SqL K H b ys ∧ xs.length = ys.length ∧ i = xs.length⟩
theorem sep_of {a b z TI TO i1 i2 : Addr} (D : ZipApart z TI TO i1 i2 a b) : ZipSep2 z TI TO i1 i2 [i1, a] [i2, b] where
  TIz := D.TIz
  TOz := D.TOz
  TITO := D.TITO
  TIi1 := D.TIi1
  mem1 := by simp
  zf1 := by simp only [List.mem_cons, List.not_mem_nil, or_false, not_or]; exact ⟨Ne.symm D.i1z, Ne.symm D.l1z⟩
  Tf1 := by simp only [List.mem_cons, List.not_mem_nil, or_false, not_or]; exact ⟨D.TOi1, Ne.symm D.l1TO⟩
  TIi2 := D.TIi2
  mem2 := by simp
  zf2 := by simp only [List.mem_cons, List.not_mem_nil, or_false, not_or]; exact ⟨Ne.symm D.i2z, Ne.symm D.l2z⟩
  Tf2 := by simp only [List.mem_cons, List.not_mem_nil, or_false, not_or]; exact ⟨D.TOi2, Ne.symm D.l2TO⟩
  sep1_2 := by simp only [List.mem_cons, List.not_mem_nil, or_false, not_or]; exact ⟨D.i12, Ne.symm D.l2i1⟩
  sep2_1 := by simp only [List.mem_cons, List.not_mem_nil, or_false, not_or]; exact ⟨Ne.symm D.i12, Ne.symm D.l1i2⟩
theorem turn_zipM {P : Program} {w : World} {K : PySem.W.Frag} {elts : List Expr} {kk : Nat} {tpos : Pos} {a b z TI TO i1 i2 : Addr} (D : ZipApart z TI TO i1 i2 a b) :
    Turn P w K (.Tuple elts kk tpos) (ItzM K a b) [z, TI, TO, i1, i2] z (fun i h => IsZip h z TI TO .none ∧ PySem.IsPair h TI (.ref i1) (.ref i2) ∧ (∃ x y, PySem.IsPair h TO x y) ∧ h.IsTupleIter i1 a i ∧ h.IsListIter i2 b i) where
  mem := by simp
  obj := fun i h st c hc => by
    obtain ⟨hz, hTI, ⟨x, y, hTO⟩, ⟨o1, e1, _, d1⟩, ⟨o2, e2, _, d2⟩⟩ := st
    have e' : c = z ∨ c = TI ∨ c = TO ∨ c = i1 ∨ c = i2 := by simpa using hc
    rcases e' with q | q | q | q | q
    · rw [q]; exact ⟨_, hz, fun v q => nomatch q⟩
    · rw [q]; exact ⟨_, hTI, fun v q => nomatch q⟩
    · rw [q]; exact ⟨_, hTO, fun v q => nomatch q⟩
    · rw [q]; exact ⟨o1, e1, fun v q => by rw [d1] at q; cases q⟩
    · rw [q]; exact ⟨o2, e2, fun v q => by rw [d2] at q; cases q⟩
  keep := fun i h h' st k => by
    obtain ⟨hz, hTI, ⟨x, y, hTO⟩, h1, h2⟩ := st
    exact ⟨k z (by simp) _ hz, k TI (by simp) _ hTI, ⟨x, y, k TO (by simp) _ hTO⟩, h1.at fun o q => k i1 (by simp) o q, h2.at fun o q => k i2 (by simp) o q⟩
  item := by
    intro X hP hw hK hc i pins s σ H E I hf st hg
    subst hP hw hK
    obtain ⟨hz, hTI, ⟨x0, y0, hTO⟩, h1, h2⟩ := st
    obtain ⟨xs, ys, x, y, hqx, hqy, hx, hy⟩ := hg
    obtain ⟨its, rv, p, _⟩ := I.tuple hqx
    obtain ⟨its2, rv2, p2, _⟩ := I.list hqy
    obtain ⟨u, hu, ru⟩ := rv.get hx
    obtain ⟨u2, hu2, ru2⟩ := rv2.get hy
    have hzl : z < s.heap.objs.size := Heap.lt_size hz
    have hd : X.A.in1.handled = none := I.ok.hd hc
    have l1 := (List.getElem?_eq_some_iff.mp hu).1
    have l2 := (List.getElem?_eq_some_iff.mp hu2).1
    refine wpAny_pyNext_zipD2_item (sep_of D) (PySem.Draws.tuple hd i1 a D.l1i1 its.toArray) (PySem.Draws.list hd i2 b D.l2i2 its2.toArray) hz hTI hTO ⟨h1, p⟩ ⟨h2, p2.isList⟩ (by simpa using l1) (by simpa using l2) fun v1 v2 h' tk hv1 hv2 z' TO' st1' st2' hT hsz hk => ?_
    obtain ⟨h1', _⟩ := st1'
    obtain ⟨h2', _⟩ := st2'
    have ev1 : v1 = u := by
      have hv1 : its[i]? = some v1 := by simpa using hv1
      rw [hu] at hv1; exact (Option.some.inj hv1).symm
    have ev2 : v2 = u2 := by
      have hv2 : its2[i]? = some v2 := by simpa using hv2
      rw [hu2] at hv2; exact (Option.some.inj hv2).symm
    subst ev1 ev2
    refine ⟨_, rfl, wpAny_letOwnedTupleGo_zip (s := { s with heap := h', toks := tk }) z' fun h'' z'' sb => ?_⟩
    have hT2 : h''.get? s.heap.objs.size = some { cls := .type "tuple", data := .seq #[v1, v2] } := (sb.2 _ (Nat.ne_of_gt hzl)).trans hT
    have new : ObjOk X.prog X.w (upd H s.heap.objs.size (.tup [x, y])) h'' s.heap.objs.size (.tup [x, y]) :=
      ⟨by show 2 ≤ sizeLine; decide, [v1, v2], .cons ru (.cons ru2 .nil), ⟨_, hT2, rfl, _, rfl⟩⟩
    have I1 : Inv X pins σ (upd H s.heap.objs.size (.tup [x, y])) { s with heap := h'', toks := tk } :=
      I.turnedNew (t' := tk) (ch := [z, TI, TO, i1, i2]) (fun c o hb q => (sb.2 c (fun q' => hb (by simp [q']))).trans (hk c o (fun q' => hb (by simp [q'])) (fun q' => hb (by simp [q'])) (fun q' => hb (by simp [q'])) (fun q' => hb (by simp [q'])) q)) hf (Nat.le_refl _) new
    refine ⟨.ref s.heap.objs.size, _, I1, rfl, ⟨_, x, y, rfl, I.hok.fresh (Nat.le_refl _), rfl, fun l hl => by rw [I.tuple_inj hl hqx]; exact hx, fun l hl => by rw [I.list_inj hl hqy]; exact hy⟩, ⟨z'', ?_, ⟨v1, v2, ?_⟩, ?_, ?_⟩, fun c hcm => ?_⟩
    · exact (sb.2 _ D.TIz).trans (hk _ _ D.TIz D.TITO D.TIi1 D.TIi2 hTI)
    · exact (sb.2 _ D.TOz).trans TO'
    · exact h1'.at fun o q => (sb.2 _ D.i1z).trans q
    · exact h2'.at fun o q => (sb.2 _ D.i2z).trans q
    · have hlt : c < s.heap.objs.size := by
        have e' : c = z ∨ c = TI ∨ c = TO ∨ c = i1 ∨ c = i2 := by simpa using hcm
        rcases e' with q | q | q | q | q
        · rw [q]; exact hzl
        · rw [q]; exact Heap.lt_size hTI
        · rw [q]; exact Heap.lt_size hTO
        · rw [q]; obtain ⟨_, e1, _⟩ := h1; exact Heap.lt_size e1
        · rw [q]; obtain ⟨_, e2, _⟩ := h2; exact Heap.lt_size e2
      rw [upd_ne (Nat.ne_of_lt hlt)]
      exact (hf c hcm).1
  done := by
    intro X hP hw hK hc i pins s σ H E I hf st hg
    subst hP hw hK
    obtain ⟨hz, hTI, ⟨x0, y0, hTO⟩, h1, h2⟩ := st
    obtain ⟨xs, ys, hqx, hqy, elen, hend⟩ := hg
    obtain ⟨its, rv, p, _⟩ := I.tuple hqx
    obtain ⟨its2, rv2, p2, _⟩ := I.list hqy
    have l1 := rv.length
    have l2 := rv2.length
    have hd : X.A.in1.handled = none := I.ok.hd hc
    have e1 : i = its.toArray.size := by simp; omega
    have e2 : i = its2.toArray.size := by simp; omega
    exact wpAny_pyNext_zipD2_end (sep_of D) (PySem.Draws.tuple hd i1 a D.l1i1 its.toArray) (PySem.Draws.list hd i2 b D.l2i2 its2.toArray) hz hTI hTO ⟨h1, p⟩ ⟨h2, p2.isList⟩ (Nat.le_of_eq e1) (Nat.le_of_eq e2) (.inl e1) fun h' tk hk => ⟨rfl, I.turnedL (t' := tk) (ch := [z, TI, TO, i1, i2]) (fun c o hb q =>
      hk c o (fun q' => hb (by simp [q'])) (fun q' => hb (by simp [q'])) (fun q' => hb (by simp [q'])) (fun q' => hb (by simp [q'])) q) hf⟩
  self := fun A i s Q E st h => wpAny_pyIter_zip st.1 h
def iZipM (K : PySem.W.Frag) (ta : TA) : TI := fun σ H R => ta σ H fun vs H1 => ∃ a b xs ys, vs = [.ref a, .ref b] ∧ SqT K H1 a xs ∧ SqL K H1 b ys ∧ R (ItzM K a b) H1
theorem pi_zipM {X : Cx} {K : PySem.W.Frag} (hK : X.K = K) {e e2 : Expr} {ta : TA} {p pos tpos : Pos} {elts : List Expr} {kk : Nat} (hg : Gl X "zip") (hm : X.mg "zip" = none) (ha : PA X [e, e2] ta)
    (hs : starEach [e, e2] X.env = (false, eval e X.env) :: starEach [e2] X.env := by rfl) (hpl : (backTo pos (starEach [e2] X.env)).any (·.1) = false := by rfl) :
    PI X (.Tuple elts kk tpos) (.Call (.Name "zip" p) [e, e2] [] pos) (iZipM K ta) := by
  subst hK
  refine ⟨fun pins s σ H R I h => ?_⟩
  refine Call_ (ld_blt I hg hm PyProof.Rows.boot_zip (PyProof.Rows.callWith_type1 (thn (ha.run pos pins s σ H _ I h) fun us s1 ⟨vs, H1, I1, r1, q1⟩ => ?_) hs hpl))
  obtain ⟨a, b, xs, ys, ex, hqx, hqy, q⟩ := q1
  subst ex
  cases r1 with
  | cons r rr =>
    cases rr with
    | cons r' rr =>
      cases rr
      cases r
      cases r'
      have fresh5 : ∀ c, c ∈ [s1.heap.objs.size + 4, s1.heap.objs.size + 2, s1.heap.objs.size + 3, s1.heap.objs.size, s1.heap.objs.size + 1] → FpOk X pins H1 c := fun c hcm => by
        have e' : c = s1.heap.objs.size + 4 ∨ c = s1.heap.objs.size + 2 ∨ c = s1.heap.objs.size + 3 ∨ c = s1.heap.objs.size ∨ c = s1.heap.objs.size + 1 := by simpa using hcm
        have hle : s1.heap.objs.size ≤ c := by
          rcases e' with z | z | z | z | z
          · rw [z]; exact Nat.le_add_right _ _
          · rw [z]; exact Nat.le_add_right _ _
          · rw [z]; exact Nat.le_add_right _ _
          · rw [z]; exact Nat.le_refl _
          · rw [z]; exact Nat.le_add_right _ _
        exact I1.fpOk hle (I1.hok.fresh hle)
      obtain ⟨its, rv, p1, _⟩ := I1.tuple hqx
      obtain ⟨its2, rv2, p2, _⟩ := I1.list hqy
      obtain ⟨o1, ho1, _⟩ := id p1
      refine PySem.zip_begins2 (PySem.begins_tuple a its.toArray) (PySem.begins_list b its2.toArray) p1 p2.isList fun h' hz hTI hTO h1 h2 hsz hk => wpAny_pyIter_zip hz ?_
      have I2 : Inv X pins σ H1 { s1 with heap := h' } := I1.kept (t' := s1.toks) hk
      exact ⟨s1.heap.objs.size + 4, [s1.heap.objs.size + 4, s1.heap.objs.size + 2, s1.heap.objs.size + 3, s1.heap.objs.size, s1.heap.objs.size + 1], _, _, H1, rfl, I2, turn_zipM (PySem.W.ktu_apart s1.heap.objs.size a b (Heap.lt_size ho1) p2.lt), ⟨hz, hTI, ⟨_, _, hTO⟩, ⟨_, h1, rfl, rfl⟩, ⟨_, h2, rfl, rfl⟩⟩, fresh5, q⟩
theorem walk_zipM {K : PySem.W.Frag} {a b : Addr} {xs ys : List V} (hl : xs.length = ys.length) : Walk (ItzM K a b) xs.length (fun H => SqT K H a xs ∧ SqL K H b ys) (YPair (fun i => xs[i]?) (fun i => ys[i]?)) := by
  refine ⟨fun i _ hi q => ?_, fun _ q => ⟨xs, ys, q.1, q.2, hl, rfl⟩, fun i H v H' _ q y => ?_⟩
  · have h1 : i < xs.length := by omega
    have h2 : i < ys.length := by omega
    exact ⟨xs, ys, xs[i], ys[i], q.1, q.2, by simp [h1], by simp [h2]⟩
  · obtain ⟨T, x, z, h1, h2, h3, h4, h5⟩ := y
    exact ⟨T, x, z, h1, h2, h3, h4 xs q.1, h5 ys q.2⟩
end G3

set_option Elab.async false
set_option linter.all false
set_option maxRecDepth 100000
set_option maxHeartbeats 4000000
/-! zip of a list and a tuple -/
namespace G3
open PySem PySem.Spec PyProof.Rows L2
def ItzN (K : PySem.W.Frag) (a b : Addr) : It :=
  ⟨fun i H => ∃ (xs ys : List V) (x y : V), SqL K H a xs ∧ SqT K H b ys ∧ xs[i]? = some x ∧ ys[i]? = some y,
    fun i H v H' => ∃ T x y, v = .ref T ∧ H T = none ∧ H' = upd H T (.tup [x, y]) ∧ (∀ xs, SqL K H a xs → xs[i]? = some x) ∧ ∀ ys, SqT K H b ys → ys[i]? = some y,
    fun i H => ∃ xs ys : List V, SqL K H a xs ∧ SqT K H b ys ∧ xs.length = ys.length ∧ i = xs.length⟩
theorem turn_zipN {P : Program} {w : World} {K : PySem.W.Frag} {elts : List Expr} {kk : Nat} {tpos : Pos} {a b z TI TO i1 i2 : Addr} (D : ZipApart z TI TO i1 i2 a b) :
    Turn P w K (.Tuple elts kk tpos) (ItzN K a b) [z, TI, TO, i1, i2] z (fun i h => IsZip h z TI TO .none ∧ PySem.IsPair h TI (.ref i1) (.ref i2) ∧ (∃ x y, PySem.IsPair h TO x y) ∧ h.IsListIter i1 a i ∧ h.IsTupleIter i2 b i) where
  mem := by simp
  obj := fun i h st c hc => by
    obtain ⟨hz, hTI, ⟨x, y, hTO⟩, ⟨o1, e1, _, d1⟩, ⟨o2, e2, _, d2⟩⟩ := st
    have e' : c = z ∨ c = TI ∨ c = TO ∨ c = i1 ∨ c = i2 := by simpa using hc
    rcases e' with q | q | q | q | q
    · rw [q]; exact ⟨_, hz, fun v q => nomatch q⟩
    · rw [q]; exact ⟨_, hTI, fun v q => nomatch q⟩
    · rw [q]; exact ⟨_, hTO, fun v q => nomatch q⟩
    · rw [q]; exact ⟨o1, e1, fun v q => by rw [d1] at q; cases q⟩
    · rw [q]; exact ⟨o2, e2, fun v q => by rw [d2] at q; cases q⟩
  keep := fun i h h' st k => by
    obtain ⟨hz, hTI, ⟨x, y, hTO⟩, h1, h2⟩ := st
    exact ⟨k z (by simp) _ hz, k TI (by simp) _ hTI, ⟨x, y, k TO (by simp) _ hTO⟩, h1.at fun o q => k i1 (by simp) o q, h2.at fun o q => k i2 (by simp) o q⟩
  item := by
    intro X hP hw hK hc i pins s σ H E I hf st hg
    subst hP hw hK
    obtain ⟨hz, hTI, ⟨x0, y0, hTO⟩, h1, h2⟩ := st
    obtain ⟨xs, ys, x, y, hqx, hqy, hx, hy⟩ := hg
    obtain ⟨its, rv, p, _⟩ := I.list hqx
    obtain ⟨its2, rv2, p2, _⟩ := I.tuple hqy
    obtain ⟨u, hu, ru⟩ := rv.get hx
    obtain ⟨u2, hu2, ru2⟩ := rv2.get hy
    have hzl : z < s.heap.objs.size := Heap.lt_size hz
    have hd : X.A.in1.handled = none := I.ok.hd hc
    have l1 := (List.getElem?_eq_some_iff.mp hu).1
    have l2 := (List.getElem?_eq_some_iff.mp hu2).1
    refine wpAny_pyNext_zipD2_item (sep_of D) (PySem.Draws.list hd i1 a D.l1i1 its.toArray) (PySem.Draws.tuple hd i2 b D.l2i2 its2.toArray) hz hTI hTO ⟨h1, p.isList⟩ ⟨h2, p2⟩ (by simpa using l1) (by simpa using l2) fun v1 v2 h' tk hv1 hv2 z' TO' st1' st2' hT hsz hk => ?_
    obtain ⟨h1', _⟩ := st1'
    obtain ⟨h2', _⟩ := st2'
    have ev1 : v1 = u := by
      have hv1 : its[i]? = some v1 := by simpa using hv1
      rw [hu] at hv1; exact (Option.some.inj hv1).symm
    have ev2 : v2 = u2 := by
      have hv2 : its2[i]? = some v2 := by simpa using hv2
      rw [hu2] at hv2; exact (Option.some.inj hv2).symm
    subst ev1 ev2
    refine ⟨_, rfl, wpAny_letOwnedTupleGo_zip (s := { s with heap := h', toks := tk }) z' fun h'' z'' sb => ?_⟩
    have hT2 : h''.get? s.heap.objs.size = some { cls := .type "tuple", data := .seq #[v1, v2] } := (sb.2 _ (Nat.ne_of_gt hzl)).trans hT
    have new : ObjOk X.prog X.w (upd H s.heap.objs.size (.tup [x, y])) h'' s.heap.objs.size (.tup [x, y]) :=
      ⟨by show 2 ≤ sizeLine; decide, [v1, v2], .cons ru (.cons ru2 .nil), ⟨_, hT2, rfl, _, rfl⟩⟩
    have I1 : Inv X pins σ (upd H s.heap.objs.size (.tup [x, y])) { s with heap := h'', toks := tk } :=
      I.turnedNew (t' := tk) (ch := [z, TI, TO, i1, i2]) (fun c o hb q => (sb.2 c (fun q' => hb (by simp [q']))).trans (hk c o (fun q' => hb (by simp [q'])) (fun q' => hb (by simp [q'])) (fun q' => hb (by simp [q'])) (fun q' => hb (by simp [q'])) q)) hf (Nat.le_refl _) new
    refine ⟨.ref s.heap.objs.size, _, I1, rfl, ⟨_, x, y, rfl, I.hok.fresh (Nat.le_refl _), rfl, fun l hl => by rw [I.list_inj hl hqx]; exact hx, fun l hl => by rw [I.tuple_inj hl hqy]; exact hy⟩, ⟨z'', ?_, ⟨v1, v2, ?_⟩, ?_, ?_⟩, fun c hcm => ?_⟩
    · exact (sb.2 _ D.TIz).trans (hk _ _ D.TIz D.TITO D.TIi1 D.TIi2 hTI)
    · exact (sb.2 _ D.TOz).trans TO'
    · exact h1'.at fun o q => (sb.2 _ D.i1z).trans q
    · exact h2'.at fun o q => (sb.2 _ D.i2z).trans q
    · have hlt : c < s.heap.objs.size := by
        have e' : c = z ∨ c = TI ∨ c = TO ∨ c = i1 ∨ c = i2 := by simpa using hcm
        rcases e' with q | q | q | q | q
        · rw [q]; exact hzl
        · rw [q]; exact Heap.lt_size hTI
        · rw [q]; exact Heap.lt_size hTO
        · rw [q]; obtain ⟨_, e1, _⟩ := h1; exact Heap.lt_size e1
        · rw [q]; obtain ⟨_, e2, _⟩ := h2; exact Heap.lt_size e2
      rw [upd_ne (Nat.ne_of_lt hlt)]
      exact (hf c hcm).1
  done := by
    intro X hP hw hK hc i pins s σ H E I hf st hg
    subst hP hw hK
    obtain ⟨hz, hTI, ⟨x0, y0, hTO⟩, h1, h2⟩ := st
    obtain ⟨xs, ys, hqx, hqy, elen, hend⟩ := hg
    obtain ⟨its, rv, p, _⟩ := I.list hqx
    obtain ⟨its2, rv2, p2, _⟩ := I.tuple hqy
    have l1 := rv.length
    have l2 := rv2.length
    have hd : X.A.in1.handled = none := I.ok.hd hc
    have e1 : i = its.toArray.size := by simp; omega
    have e2 : i = its2.toArray.size := by simp; omega
    exact wpAny_pyNext_zipD2_end (sep_of D) (PySem.Draws.list hd i1 a D.l1i1 its.toArray) (PySem.Draws.tuple hd i2 b D.l2i2 its2.toArray) hz hTI hTO ⟨h1, p.isList⟩ ⟨h2, p2⟩ (Nat.le_of_eq e1) (Nat.le_of_eq e2) (.inl e1) fun h' tk hk => ⟨rfl, I.turnedL (t' := tk) (ch := [z, TI, TO, i1, i2]) (fun c o hb q =>
      hk c o (fun q' => hb (by simp [q'])) (fun q' => hb (by simp [q'])) (fun q' => hb (by simp [q'])) (fun q' => hb (by simp [q'])) q) hf⟩
  self := fun A i s Q E st h => wpAny_pyIter_zip st.1 h
def iZipN (K : PySem.W.Frag) (ta : TA) : TI := fun σ H R => ta σ H fun vs H1 => ∃ a b xs ys, vs = [.ref a, .ref b] ∧ SqL K H1 a xs ∧ SqT K H1 b ys ∧ R (ItzN K a b) H1
theorem pi_zipN {X : Cx} {K : PySem.W.Frag} (hK : X.K = K) {e e2 : Expr} {ta : TA} {p pos tpos : Pos} {elts : List Expr} {kk : Nat} (hg : Gl X "zip") (hm : X.mg "zip" = none) (ha : PA X [e, e2] ta)
    (hs : starEach [e, e2] X.env = (false, eval e X.env) :: starEach [e2] X.env := by rfl) (hpl : (backTo pos (starEach [e2] X.env)).any (·.1) = false := by rfl) :
    PI X (.Tuple elts kk tpos) (.Call (.Name "zip" p) [e, e2] [] pos) (iZipN K ta) := by
  subst hK
  refine ⟨fun pins s σ H R I h => ?_⟩
  refine Call_ (ld_blt I hg hm PyProof.Rows.boot_zip (PyProof.Rows.callWith_type1 (thn (ha.run pos pins s σ H _ I h) fun us s1 ⟨vs, H1, I1, r1, q1⟩ => ?_) hs hpl))
  obtain ⟨a, b, xs, ys, ex, hqx, hqy, q⟩ := q1
  subst ex
  cases r1 with
  | cons r rr =>
    cases rr with
    | cons r' rr =>
      cases rr
      cases r
      cases r'
      have fresh5 : ∀ c, c ∈ [s1.heap.objs.size + 4, s1.heap.objs.size + 2, s1.heap.objs.size + 3, s1.heap.objs.size, s1.heap.objs.size + 1] → FpOk X pins H1 c := fun c hcm => by
        have e' : c = s1.heap.objs.size + 4 ∨ c = s1.heap.objs.size + 2 ∨ c = s1.heap.objs.size + 3 ∨ c = s1.heap.objs.size ∨ c = s1.heap.objs.size + 1 := by simpa using hcm
        have hle : s1.heap.objs.size ≤ c := by
          rcases e' with z | z | z | z | z
          · rw [z]; exact Nat.le_add_right _ _
          · rw [z]; exact Nat.le_add_right _ _
          · rw [z]; exact Nat.le_add_right _ _
          · rw [z]; exact Nat.le_refl _
          · rw [z]; exact Nat.le_add_right _ _
        exact I1.fpOk hle (I1.hok.fresh hle)
      obtain ⟨its, rv, p1, _⟩ := I1.list hqx
      obtain ⟨its2, rv2, p2, _⟩ := I1.tuple hqy
      obtain ⟨o1, ho1, _⟩ := id p2
      refine PySem.zip_begins2 (PySem.begins_list a its.toArray) (PySem.begins_tuple b its2.toArray) p1.isList p2 fun h' hz hTI hTO h1 h2 hsz hk => wpAny_pyIter_zip hz ?_
      have I2 : Inv X pins σ H1 { s1 with heap := h' } := I1.kept (t' := s1.toks) hk
      exact ⟨s1.heap.objs.size + 4, [s1.heap.objs.size + 4, s1.heap.objs.size + 2, s1.heap.objs.size + 3, s1.heap.objs.size, s1.heap.objs.size + 1], _, _, H1, rfl, I2, turn_zipN (PySem.W.ktu_apart s1.heap.objs.size a b p1.lt (Heap.lt_size ho1)), ⟨hz, hTI, ⟨_, _, hTO⟩, ⟨_, h1, rfl, rfl⟩, ⟨_, h2, rfl, rfl⟩⟩, fresh5, q⟩
theorem walk_zipN {K : PySem.W.Frag} {a b : Addr} {xs ys : List V} (hl : xs.length = ys.length) : Walk (ItzN K a b) xs.length (fun H => SqL K H a xs ∧ SqT K H b ys) (YPair (fun i => xs[i]?) (fun i => ys[i]?)) := by
  refine ⟨fun i _ hi q => ?_, fun _ q => ⟨xs, ys, q.1, q.2, hl, rfl⟩, fun i H v H' _ q y => ?_⟩
  · have h1 : i < xs.length := by omega
    have h2 : i < ys.length := by omega
    exact ⟨xs, ys, xs[i], ys[i], q.1, q.2, by simp [h1], by simp [h2]⟩
  · obtain ⟨T, x, z, h1, h2, h3, h4, h5⟩ := y
    exact ⟨T, x, z, h1, h2, h3, h4 xs q.1, h5 ys q.2⟩
end G3

set_option Elab.async false
set_option linter.all false
set_option maxRecDepth 100000
set_option maxHeartbeats 4000000
namespace G3
open PySem PySem.Spec PyProof.Rows L2
theorem map_n {grp : List Nat} {i : Nat} (h : i < grp.length) : (grp.map nV)[i]? = some (nV (grp.getD i 0)) := by
  rw [List.getElem?_map, List.getD_eq_getElem?_getD, List.getElem?_eq_getElem h]; rfl
theorem zintn (i : Nat) : V.int (0 + (i : Int)) = nV i := by rw [Int.zero_add]
/-- what comes to q -/
def pushAt (ps : List Nat) (cs : List Int) (q : Nat) : Int := ((List.range ps.length).map fun p => if ps.getD p 0 = q then gi cs p else 0).sum
def pushL (gn : Nat) (ps : List Nat) (cs : List Int) : List Int := (List.range gn).map (pushAt ps cs)
def pullL (sh ps : List Nat) (row : List Int) : List Int := (List.range ps.length).map fun p => ((sh.getD p 0 : Nat) : Int) * gi row (ps.getD p 0)
theorem list_gi {l : List Int} {m : Nat} {f : Nat → Int} (h : l.length = m) (e : ∀ k, k < m → gi l k = f k) : l = (List.range m).map f := by
  subst h
  refine List.ext_getElem (by rw [List.length_map, List.length_range]) fun i h1 h2 => ?_
  rw [List.getElem_map, List.getElem_range, ← e i h1]
  have := gi_get h1
  rw [List.getElem?_eq_getElem h1] at this
  exact Option.some.inj this
theorem gi_set {l : List Int} {q r : Nat} {c : Int} (hr : r < l.length) : gi (l.set q (gi l q + c)) r = gi l r + if r = q then c else 0 := by
  have h1 := gi_get (l := l.set q (gi l q + c)) (i := r) (by rw [List.length_set]; exact hr)
  rw [List.getElem?_set] at h1
  by_cases hq : q = r
  · subst hq
    rw [if_pos rfl, if_pos hr] at h1
    rw [if_pos rfl]
    exact (Option.some.inj h1).symm
  · rw [if_neg hq, gi_get hr] at h1
    rw [if_neg (fun z => hq z.symm), Int.add_zero]
    exact (Option.some.inj h1).symm
theorem row_at2 {K : PySem.W.Frag} {H H' : Hp} {a : Addr} {xs : List V} (h : SqL K H a xs ∨ SqT K H a xs) (e : Same H H') : SqL K H' a xs ∨ SqT K H' a xs := h.imp e.seq (Same.seqT e)
section
variable {P : Program} {w : World} {K : PySem.W.Frag} {mg : Str → Option Value} {base : Heap} {C CM CB : Addr}
abbrev n_valences : List Str := ["graph", "place", "line"]
abbrev p_valences : List Str := ["graph"]
theorem sc_valences : FnScope n_valences p_valences (defScope s_valences) := ⟨rfl, rfl, rfl, by decide +kernel, rfl, by decide +kernel, by decide +kernel⟩
abbrev n_told_sum : List Str := ["graph", "chips", "number", "many"]
abbrev p_told_sum : List Str := ["graph", "chips"]
theorem sc_told_sum : FnScope n_told_sum p_told_sum (defScope s_told_sum) := ⟨rfl, rfl, rfl, by decide +kernel, rfl, by decide +kernel, by decide +kernel⟩
abbrev n_gathered : List Str := ["graphmap", "row", "found", "place", "number"]
abbrev p_gathered : List Str := ["graphmap", "row"]
theorem sc_gathered : FnScope n_gathered p_gathered (defScope s_gathered) := ⟨rfl, rfl, rfl, by decide +kernel, rfl, by decide +kernel, by decide +kernel⟩
abbrev n_pushed : List Str := ["graphmap", "chips"]
abbrev p_pushed : List Str := ["graphmap", "chips"]
theorem sc_pushed : FnScope n_pushed p_pushed (defScope s_pushed) := ⟨rfl, rfl, rfl, by decide +kernel, rfl, by decide +kernel, by decide +kernel⟩
abbrev n_spread : List Str := ["graphmap", "row", "many", "place"]
abbrev p_spread : List Str := ["graphmap", "row"]
theorem sc_spread : FnScope n_spread p_spread (defScope s_spread) := ⟨rfl, rfl, rfl, by decide +kernel, rfl, by decide +kernel, by decide +kernel⟩
abbrev n_pulled : List Str := ["graphmap", "chips"]
abbrev p_pulled : List Str := ["graphmap", "chips"]
theorem sc_pulled : FnScope n_pulled p_pulled (defScope s_pulled) := ⟨rfl, rfl, rfl, by decide +kernel, rfl, by decide +kernel, by decide +kernel⟩
abbrev n_branch_row : List Str := ["graphmap", "own", "other", "many", "place", "line", "one", "more"]
abbrev p_branch_row : List Str := ["graphmap"]
theorem sc_branch_row : FnScope n_branch_row p_branch_row (defScope s_branch_row) := ⟨rfl, rfl, rfl, by decide +kernel, rfl, by decide +kernel, by decide +kernel⟩
def spVals (C : Addr) : Sp := fun vs H Q _ => ∃ (g kd : Addr) (n : Nat) (es : List Pr), vs = [.ref g] ∧ Kpt H C g kd n es ∧ ∀ (H' : Hp) (L : Addr), But (· = kd) H H' → Kpt H' C g kd n es → H' L = some (.lst ((List.range n).map fun v => nV (val es v))) → Q (.ref L) H'
theorem ok_valences (D : DefAt K mg "valences" "valences" s_valences) (B : Bt mg) (h_laplace : Has P w K mg base CX0 1 "laplace" p_laplace (spLap C)) : Has P w K mg base CX0 2 "valences" p_valences (spVals C) := by
  refine has_of D sc_valences (fun _ _ _ _ _ _ us hl => match us, hl with | [_], _ => rfl) (fun vs H Q E h => ?_) (fun f cdv A outer s H vs Q E hr h => ?_)
  · obtain ⟨g, kd, n, es, rfl, _⟩ := h
    rfl
  · obtain ⟨g, kd, n, es, rfl, kp, q⟩ := h
    refine ⟨_, (pss_one (ps_ret (pe_lc (own := [("place", 1), ("line", 2)]) (g := _) (tt := tYes) rfl sc_valences.nd (pi_enumR (K := K) rfl rfl B.enumerate (pa_cons (pe_h h_laplace hr pass0 (pa_cons (pv 0) pa_nil)) pa_nil)) (blkOk_by (N := n_valences) (sc := defScope s_valences) (by decide +kernel)) (fun _ _ _ _ _ => (pgT (K := K) (n := 2) rfl rfl (pgs_cons (pg_name (i := 1) sc_valences.nd rfl (.inl rfl)) (pgs_cons (pg_name (i := 2) sc_valences.nd rfl (.inl rfl)) pgs_nil)))) (fun _ _ _ _ _ => pts_nil) (fun _ _ _ _ _ => (pe_ix (ixT (K := K) rfl) (pv 2) (pv 1) (fun _ _ => rfl)))))), ?_⟩
    have hn64 := kp.1.2.2.2.1
    refine ⟨_, rfl, g, kd, n, es, rfl, kp, fun H1 t b1 k1 ⟨rs, ht, hrs⟩ => ?_⟩
    have lrs : rs.length = n := by rw [hrs.len, List.length_range]
    refine ⟨t, rfl, .inr ⟨⟨_, SqT.of ht⟩, fun L nL => ?_⟩⟩
    refine lc_it (walk_enumT (K := K) (a := t) (xs := rs)) (fun j H3 => Same H1 H3 ∧ H3 L = some (.lst ((List.range j).map fun v => nV (val es v)))) ⟨same_upd nL, upd_same⟩ (fun j H3 _ p => SqT.of (p.1 _ _ ht)) ?_ ?_
    · rintro j x H3 H4 hj ⟨sm3, hL⟩ ⟨T0, x1, y1, rfl, nT0, rfl, hx1, hy1⟩
      cases hx1
      have hjn : j < n := by omega
      obtain ⟨v, e1, a, xs, rfl, e2, e3, e4⟩ := All2.get hrs (i := j) (r := j) (by rw [List.getElem?_range hjn])
      have hy1 : rs[j]? = some y1 := hy1
      rw [hy1] at e1
      obtain rfl := Option.some.inj e1
      have sT : Same H3 (upd H3 T0 (.tup [.int (j : Nat), .ref a])) := same_upd nT0
      have hL4 := sT _ _ hL
      have ha4 := sT _ _ (sm3 _ _ e2)
      have hj2 : (xs.map V.int)[j]? = some (nV (val es j)) := by rw [List.getElem?_map, e4]; rfl
      refine ⟨T0, _, rfl, SqT.of upd_same, rfl, _, _, rfl, _, _, rfl, rfl, rfl, yes_ ?_⟩
      refine ⟨_, rfl, _, rfl, _, _, j, _, rfl, rfl, SqT.of ha4, atI_nat hj2, ?_⟩
      refine ⟨_, hL4, size_lt (by rw [List.length_map, List.length_range]; omega), same_mut (sm3.trans sT) nL, ?_⟩
      rw [upd_same, List.range_succ, List.map_append]; rfl
    · rintro H3 ⟨sm3, hL⟩
      rw [lrs] at hL
      have k3 := k1.same sm3
      exact q H3 L (b1.trans (Same.but sm3)) k3 hL
def spTsum (K : PySem.W.Frag) (C : Addr) : Sp := fun vs H Q _ => ∃ (g c : Addr) (n : Nat) (es : List Pr) (cs : List Int), vs = [.ref g, .ref c] ∧ Gk H C g n es ∧ (SqL K H c (cs.map V.int) ∨ SqT K H c (cs.map V.int)) ∧ cs.length = n ∧ ∀ (H' : Hp) (L : Addr), Same H H' → H' L = some (.lst (cs.map V.int)) → Q (.ref L) H'
theorem ok_told_sum (D : DefAt K mg "told_sum" "told_sum" s_told_sum) (B : Bt mg) (G : GraphC K C) (h_is_whole_sums : Has P w K mg base CX0 1 "is_whole_sums" p_is_whole_sums (spIsI K)) : Has P w K mg base CX0 2 "told_sum" p_told_sum (spTsum K C) := by
  refine has_of D sc_told_sum (fun _ _ _ _ _ _ us hl => match us, hl with | [_, _], _ => rfl) (fun vs H Q E h => ?_) (fun f cdv A outer s H vs Q E hr h => ?_)
  · obtain ⟨g, c, n, es, cs, rfl, _⟩ := h
    rfl
  · obtain ⟨g, c, n, es, cs, rfl, gk, hrow, lcs, q⟩ := h
    refine ⟨_, (pss_cons (ps_if (PW.pt (pw_or (pt_not (pt_val (pe_callB (isiTK (K := K) rfl) rfl B.isinstance (by decide +kernel) (pa_cons (pv 1) (pa_cons (pe_tup (pa_cons (pe_bltn (v := .ty "tuple") (u := .type "tuple") rfl B.tuple (by decide +kernel) rfl) (pa_cons (pe_bltn (v := .ty "list") (u := .type "list") rfl B.list (by decide +kernel) rfl) pa_nil))) pa_nil))))) (pw_or1 (pt_cmpR op_ne (pe_callB (lenK (K := K) rfl) rfl B.len PySem.boot_len (pa_cons (pv 1) pa_nil)) (fldK (K := K) rfl (pv 0) rfl) (nomark _))))) (pss_one ps_never) pss_nil)
  (pss_cons (ps_for PassesOwn.never rfl (pi_enumR (K := K) rfl rfl B.enumerate (pa_cons (pv 1) pa_nil)) (pgT (K := K) (n := 2) rfl rfl (pgs_cons (pg_name (i := 2) sc_told_sum.nd rfl (.inl rfl)) (pgs_cons (pg_name (i := 3) sc_told_sum.nd rfl (.inl rfl)) pgs_nil))) (pss_one (ps_if (pt_not (pt_val (pe_h h_is_whole_sums hr pass0 (pa_cons (pv 3) pa_nil)))) (pss_one ps_never) pss_nil)))
  (pss_one (ps_ret (pe_callTy (listK (K := K) rfl) rfl B.list (by decide +kernel) (pa_cons (pv 1) pa_nil)))))), ?_⟩
    obtain ⟨⟨kd, dx, eT, vs, hg, heT, hvs⟩, good, hn1, hn64, he4, _⟩ := id gk
    refine ⟨_, rfl, by show 2 ≤ sizeLine; decide, fun tp ntp => ?_⟩
    have s1 : Same H (upd H tp (.tup [.ty "tuple", .ty "list"])) := same_upd ntp
    have htp : (upd H tp (.tup [.ty "tuple", .ty "list"])) tp = some (.tup [.ty "tuple", .ty "list"]) := upd_same
    generalize upd H tp (.tup [.ty "tuple", .ty "list"]) = H1 at s1 htp
    have hrow1 := row_at2 hrow s1
    obtain ⟨d0, ht, hs⟩ := row_tyM hrow1
    refine ⟨_, tp, _, _, _, isSeqD d0, rfl, htp, .cons (.ty _) (.cons (.ty _) .nil), ht, kt_tl d0, _, rfl, ?_⟩
    rw [hs]
    refine iteF ⟨_, rfl, _, _, rfl, row_lenM hrow1, _, rfl, g, C, dx, _, _, rfl, s1 _ _ hg, G.cls, G.n, rfl, ?_⟩
    refine ⟨rfl, _, rfl, ifN (fun ne => absurd (congrArg V.int (by rw [List.length_map]; omega)) ne) fun _ => ?_⟩
    refine ⟨_, rfl, c, rfl, ?_⟩
    refine for_enR (K := K) (a := c) (xs := cs.map V.int) (H0 := H) hrow (fun i σ H' => ∃ (y z : Option V), σ = [some (.ref g), some (.ref c), y, z] ∧ Same H H') ?_ ?_ ?_ ?_
    · exact ⟨_, _, rfl, s1⟩
    · rintro i σ' H' ⟨_, _, _, sm⟩ o ho
      exact sm _ _ ho
    · rintro i x T0 σ' H' hx ⟨y, z, rfl, sm⟩ nT
      rw [List.getElem?_map] at hx
      obtain ⟨k, hk, rfl⟩ := Option.map_eq_some_iff.mp hx
      have sT : Same H' (upd H' T0 (.tup [.int (i : Nat), .int k])) := same_upd nT
      refine ⟨T0, _, rfl, SqT.of upd_same, rfl, _, _, rfl, _, _, rfl, rfl, ?_⟩
      refine ⟨_, rfl, _, _, rfl, .int k, _, rfl, iteF ⟨_, _, rfl, sm.trans sT⟩⟩
    · rintro σ' H' ⟨y, z, rfl, sm⟩
      refine ⟨_, rfl, c, _, rfl, row_at2 hrow sm, fun L nL => q _ L (sm.trans (same_upd nL)) upd_same⟩
def spGath (K : PySem.W.Frag) (C CM : Addr) : Sp := fun vs H Q _ => ∃ (x r g gg : Addr) (ps : List Nat) (im : List (Option Nat)) (sh : List Nat) (gn : Nat) (ges : List Pr) (cs : List Int), vs = [.ref x, .ref r] ∧ GMap K H CM x g gg ps im sh ∧ Gk H C gg gn ges ∧ H r = some (.lst (cs.map V.int)) ∧ cs.length = ps.length ∧ (∀ p ∈ ps, p < gn) ∧
  ∀ (H' : Hp) (l : Addr), Same H H' → H' l = some (.tup ((pushL gn ps cs).map V.int)) → Q (.ref l) H'
theorem ok_gathered (D : DefAt K mg "gathered" "gathered" s_gathered) (B : Bt mg) (G : GraphC K C) (GM : GMapC K CM) : Has P w K mg base CX0 1 "gathered" p_gathered (spGath K C CM) := by
  refine has_of D sc_gathered (fun _ _ _ _ _ _ us hl => match us, hl with | [_, _], _ => rfl) (fun vs H Q E h => ?_) (fun f cdv A outer s H vs Q E hr h => ?_)
  · obtain ⟨x, r, g, gg, ps, im, sh, gn, ges, cs, rfl, _⟩ := h
    rfl
  · obtain ⟨x, r, g, gg, ps, im, sh, gn, ges, cs, rfl, ⟨dx, pT, eT, sT, f1, f2, f3, f4⟩, gk, hr0, lcs, hps, q⟩ := h
    refine ⟨_, (pss_cons (ps_set (i := 2) sc_gathered.nd rfl (.inl rfl) (pe_op op_rep (pe_lst (pa_cons pe_int pa_nil)) (fldK (K := K) rfl (fldK (K := K) rfl (pv 0) rfl) rfl)))
  (pss_cons (ps_for PassesOwn.never rfl (pi_zipM (K := K) rfl rfl B.zip (pa_cons (fldK (K := K) rfl (pv 0) rfl) (pa_cons (pv 1) pa_nil))) (pgT (K := K) (n := 2) rfl rfl (pgs_cons (pg_name (i := 3) sc_gathered.nd rfl (.inl rfl)) (pgs_cons (pg_name (i := 4) sc_gathered.nd rfl (.inl rfl)) pgs_nil))) (pss_one (ps_asg (pe_op op_add (pe_ix (ixL (K := K) rfl) (pv 2) (pv 3) (fun _ _ => rfl)) (pv 4)) (pg_sub (pv 2) (pv 3) set_list))))
  (pss_one (ps_ret (pe_callTy (tupK (K := K) rfl) rfl B.tuple (by decide +kernel) (pa_cons (pv 2) pa_nil)))))), ?_⟩
    obtain ⟨⟨kd, dg, eg, vg, hg, heg, hvg⟩, good, hn1, hn64, he4, _⟩ := id gk
    refine ⟨by show 1 ≤ sizeLine; decide, fun z nz => ?_⟩
    have sz : Same H (upd H z (.lst [.int 0])) := same_upd nz
    have hz : (upd H z (.lst [.int 0])) z = some (.lst [.int 0]) := upd_same
    generalize upd H z (.lst [.int 0]) = H1 at sz hz ⊢
    refine ⟨_, rfl, x, CM, dx, _, _, rfl, sz _ _ f1, GM.cls, GM.goal, rfl, gg, C, dg, _, _, rfl, sz _ _ hg, G.cls, G.n, rfl, z, gn, [.int 0], rfl, rfl, hz, by omega, by omega, size_le (by show 1 * _ ≤ _; omega), fun F nF => ?_⟩
    rw [rep_flatI]
    have er : List.replicate gn (V.int 0) = (List.replicate gn (0 : Int)).map V.int := by rw [List.map_replicate]
    rw [er]
    have sF : Same H1 (upd H1 F (.lst ((List.replicate gn (0 : Int)).map V.int))) := same_upd nF
    have hF : (upd H1 F (.lst ((List.replicate gn (0 : Int)).map V.int))) F = some (.lst ((List.replicate gn (0 : Int)).map V.int)) := upd_same
    generalize upd H1 F (.lst ((List.replicate gn (0 : Int)).map V.int)) = H2 at sF hF ⊢
    have s2 := sz.trans sF
    have nFH : H F = none := sz.free nF
    refine ⟨_, rfl, x, CM, dx, _, _, rfl, s2 _ _ f1, GM.cls, GM.places, rfl, _, rfl, pT, r, ps.map nV, cs.map V.int, rfl, Same.seqT s2 f2, SqL.of (s2 _ _ hr0), ?_⟩
    have lz : (ps.map nV).length = (cs.map V.int).length := by rw [List.length_map, List.length_map]; exact lcs.symm
    refine for_it (walk_zipM (K := K) (a := pT) (b := r) lz) (fun i σ H' => ∃ (y z : Option V) (fs : List Int), σ = [some (.ref x), some (.ref r), some (.ref F), y, z] ∧ Same H H' ∧ H' F = some (.lst (fs.map V.int)) ∧ fs.length = gn ∧ ∀ k, k < gn → gi fs k = ((List.range i).map fun p => if ps.getD p 0 = k then gi cs p else 0).sum) ?_ ?_ ?_ ?_
    · refine ⟨_, _, List.replicate gn 0, rfl, s2, hF, List.length_replicate, fun k hk => ?_⟩
      unfold gi
      rw [List.getD_eq_getElem?_getD, List.getElem?_replicate, if_pos hk]; rfl
    · rintro i σ H' hi ⟨_, _, _, _, sm, _⟩
      exact ⟨Same.seqT sm f2, SqL.of (sm _ _ hr0)⟩
    · rintro i y0 σ H' H3 hi ⟨y, z, fs, rfl, sm, hF', lfs, hfs⟩ ⟨T, x1, y1, rfl, nT, rfl, hx1, hy1⟩
      have hi1 : i < ps.length := by rw [List.length_map] at hi; exact hi
      have hi2 : i < cs.length := by omega
      have hx1 : (ps.map nV)[i]? = some x1 := hx1
      have hy1 : (cs.map V.int)[i]? = some y1 := hy1
      rw [map_n hi1] at hx1
      rw [rowI_get hi2] at hy1
      obtain rfl := Option.some.inj hx1
      obtain rfl := Option.some.inj hy1
      have hpl : ps.getD i 0 < gn := by
        rw [List.getD_eq_getElem?_getD, List.getElem?_eq_getElem hi1]
        exact hps _ (List.getElem_mem hi1)
      have sT : Same H' (upd H' T (.tup [nV (ps.getD i 0), .int (gi cs i)])) := same_upd nT
      have hT : (upd H' T (.tup [nV (ps.getD i 0), .int (gi cs i)])) T = some (.tup [nV (ps.getD i 0), .int (gi cs i)]) := upd_same
      have hF4 := sT _ _ hF'
      have sm4 := sm.trans sT
      generalize upd H' T (.tup [nV (ps.getD i 0), .int (gi cs i)]) = H4 at sT hT hF4 sm4 ⊢
      refine ⟨T, _, rfl, SqT.of hT, rfl, _, _, rfl, _, _, rfl, rfl, ?_⟩
      refine ⟨_, rfl, _, rfl, _, _, ps.getD i 0, _, rfl, rfl, SqL.of hF4, atI_nat (rowI_get (by omega)), _, rfl, _, _, rfl, rfl, ?_⟩
      refine ⟨_, rfl, _, rfl, F, _, ps.getD i 0, ps.getD i 0, rfl, rfl, hF4, Evl.ixN_nat (by rw [List.length_map]; omega), ?_⟩
      rw [← List.map_set (f := V.int)]
      refine ⟨_, _, fs.set (ps.getD i 0) (gi fs (ps.getD i 0) + gi cs i), rfl, same_mut sm4 nFH, upd_same, by rw [List.length_set]; exact lfs, fun k hk => ?_⟩
      rw [gi_set (by omega), hfs k hk, List.range_succ, List.map_append, List.sum_append]
      show _ = _ + ((if ps.getD i 0 = k then gi cs i else 0) + 0)
      rw [Int.add_zero]
      by_cases c : k = ps.getD i 0
      · rw [if_pos c, if_pos c.symm]
      · rw [if_neg c, if_neg (fun z => c z.symm)]
    · rintro σ H3 ⟨y, z, fs, rfl, sm, hF', lfs, hfs⟩
      rw [List.length_map] at hfs
      have efs : fs = pushL gn ps cs := list_gi lfs hfs
      rw [efs] at hF'
      exact ⟨_, rfl, F, _, rfl, .inl ⟨SqL.of hF', fun l nl => q _ l (sm.trans (same_upd nl)) upd_same⟩⟩
def spSpr (K : PySem.W.Frag) (CM : Addr) : Sp := fun vs H Q _ => ∃ (x r g gg : Addr) (ps : List Nat) (im : List (Option Nat)) (sh : List Nat) (row : List Int), vs = [.ref x, .ref r] ∧ GMap K H CM x g gg ps im sh ∧ H r = some (.lst (row.map V.int)) ∧ sh.length = ps.length ∧ (∀ p ∈ ps, p < row.length) ∧ (∀ s ∈ sh, s ≤ 100000) ∧ ps.length ≤ 1000 ∧
  ∀ (H' : Hp) (l : Addr), Same H H' → H' l = some (.tup ((pullL sh ps row).map V.int)) → Q (.ref l) H'
theorem ok_spread (D : DefAt K mg "spread" "spread" s_spread) (B : Bt mg) (GM : GMapC K CM) : Has P w K mg base CX0 1 "spread" p_spread (spSpr K CM) := by
  refine has_of D sc_spread (fun _ _ _ _ _ _ us hl => match us, hl with | [_, _], _ => rfl) (fun vs H Q E h => ?_) (fun f cdv A outer s H vs Q E hr h => ?_)
  · obtain ⟨x, r, g, gg, ps, im, sh, row, rfl, _⟩ := h
    rfl
  · obtain ⟨x, r, g, gg, ps, im, sh, row, rfl, ⟨dx, pT, eT, sT, f1, f2, f3, f4⟩, hr0, lsh, hps, hsh, lps, q⟩ := h
    refine ⟨_, (pss_one (ps_ret (pe_callTy (tupK (K := K) rfl) rfl B.tuple (by decide +kernel) (pa_cons (pe_lc (own := [("many", 2), ("place", 3)]) (g := _) (tt := tYes) rfl sc_spread.nd (pi_zipK (K := K) rfl rfl B.zip (pa_cons (fldK (K := K) rfl (pv 0) rfl) (pa_cons (fldK (K := K) rfl (pv 0) rfl) pa_nil))) (blkOk_by (N := n_spread) (sc := defScope s_spread) (by decide +kernel)) (fun _ _ _ _ _ => (pgT (K := K) (n := 2) rfl rfl (pgs_cons (pg_name (i := 2) sc_spread.nd rfl (.inl rfl)) (pgs_cons (pg_name (i := 3) sc_spread.nd rfl (.inl rfl)) pgs_nil)))) (fun _ _ _ _ _ => pts_nil) (fun _ _ _ _ _ => (pe_op op_mul (pv 2) (pe_ix (ixL (K := K) rfl) (pv 1) (pv 3) (fun _ _ => rfl))))) pa_nil)))), ?_⟩
    refine ⟨_, rfl, x, CM, dx, _, _, rfl, f1, GM.cls, GM.sheets, rfl, _, rfl, x, CM, dx, _, _, rfl, f1, GM.cls, GM.places, rfl, ?_⟩
    refine ⟨sT, pT, sh.map nV, ps.map nV, rfl, .inr ⟨f4, f2, fun L nL => ?_⟩⟩
    refine lc_it (walk_zipT (K := K) (a := sT) (b := pT) (xs := sh.map nV) (ys := ps.map nV) (n := ps.length) (by rw [List.length_map, List.length_map, lsh, Nat.min_self])) (fun j H3 => Same H H3 ∧ H3 L = some (.lst (((List.range j).map fun p => ((sh.getD p 0 : Nat) : Int) * gi row (ps.getD p 0)).map V.int))) ⟨same_upd nL, upd_same⟩ (fun j H3 _ p => ⟨Same.seqT p.1 f4, Same.seqT p.1 f2⟩) ?_ ?_
    · rintro j y0 H3 H4 hj ⟨sm3, hL⟩ ⟨T0, x1, y1, rfl, nT0, rfl, hx1, hy1⟩
      have hx1 : (sh.map nV)[j]? = some x1 := hx1
      have hy1 : (ps.map nV)[j]? = some y1 := hy1
      rw [map_n (by omega)] at hx1
      rw [map_n hj] at hy1
      obtain rfl := Option.some.inj hx1
      obtain rfl := Option.some.inj hy1
      have hpl : ps.getD j 0 < row.length := by
        rw [List.getD_eq_getElem?_getD, List.getElem?_eq_getElem hj]
        exact hps _ (List.getElem_mem hj)
      have hsl : sh.getD j 0 ≤ 100000 := by
        have hj2 : j < sh.length := by omega
        rw [List.getD_eq_getElem?_getD, List.getElem?_eq_getElem hj2]
        exact hsh _ (List.getElem_mem hj2)
      have s4 : Same H3 (upd H3 T0 (.tup [nV (sh.getD j 0), nV (ps.getD j 0)])) := same_upd nT0
      have hL4 := s4 _ _ hL
      have sm4 := sm3.trans s4
      refine ⟨T0, _, rfl, SqT.of upd_same, rfl, _, _, rfl, _, _, rfl, rfl, rfl, yes_ ?_⟩
      refine ⟨_, rfl, _, rfl, _, rfl, _, _, ps.getD j 0, _, rfl, rfl, SqL.of (sm4 _ _ hr0), atI_nat (rowI_get hpl), _, _, rfl, rfl, .inl ⟨by omega, by omega⟩, ?_⟩
      refine ⟨_, hL4, size_lt (by rw [List.length_map, List.length_map, List.length_range]; omega), same_mut sm4 nL, ?_⟩
      rw [upd_same, List.range_succ, List.map_append, List.map_append]; rfl
    · rintro H3 ⟨sm3, hL⟩
      exact ⟨L, _, rfl, .inl ⟨SqL.of hL, fun l nl => q _ l (sm3.trans (same_upd nl)) upd_same⟩⟩
end
end G3

set_option Elab.async false
set_option linter.all false
set_option maxRecDepth 100000
set_option maxHeartbeats 4000000
namespace G3
open PySem PySem.Spec PyProof.Rows L2
def natsD (l : List Nat) : PyData := .list (l.map fun p : Nat => PyData.int (p : Int))
def optsD (l : List (Option Nat)) : PyData := .list (l.map optP)
def compP (ps2 ps1 : List Nat) : List Nat := ps1.map fun p => ps2.getD p 0
def compI (im2 im1 : List (Option Nat)) : List (Option Nat) := im1.map fun o => o.bind fun k => im2.getD k none
def brL (n : Nat) (es ges : List Pr) (ps sh : List Nat) : List Int := (List.range n).map fun p => (((val es p : Nat) : Int) - 2) - ((sh.getD p 0 : Nat) : Int) * (((val ges (ps.getD p 0) : Nat) : Int) - 2)
theorem gi_range {n v : Nat} {f : Nat → Int} (h : v < n) : gi ((List.range n).map f) v = f v := by
  unfold gi
  rw [List.getD_eq_getElem?_getD, List.getElem?_map, List.getElem?_range h]; rfl
section
variable {P : Program} {w : World} {K : PySem.W.Frag} {mg : Str → Option Value} {base : Heap} {C CM CB fB : Addr}
abbrev n_map_after : List Str := ["first", "second", "places", "edges", "place", "edge"]
abbrev p_map_after : List Str := ["first", "second"]
theorem sc_map_after : FnScope n_map_after p_map_after (defScope s_map_after) := ⟨rfl, rfl, rfl, by decide +kernel, rfl, by decide +kernel, by decide +kernel⟩
def spPush (K : PySem.W.Frag) (C CM : Addr) : Sp := fun vs H Q _ => ∃ (x c g gg : Addr) (ps : List Nat) (im : List (Option Nat)) (sh : List Nat) (n gn : Nat) (es ges : List Pr) (cs : List Int), vs = [.ref x, .ref c] ∧ GMap K H CM x g gg ps im sh ∧ Gk H C g n es ∧ Gk H C gg gn ges ∧ (SqL K H c (cs.map V.int) ∨ SqT K H c (cs.map V.int)) ∧ cs.length = n ∧ ps.length = n ∧ (∀ p ∈ ps, p < gn) ∧
  ∀ (H' : Hp) (l : Addr), Same H H' → H' l = some (.tup ((pushL gn ps cs).map V.int)) → Q (.ref l) H'
theorem ok_pushed (D : DefAt K mg "pushed" "pushed" s_pushed) (B : Bt mg) (GM : GMapC K CM) (h_told_sum : Has P w K mg base CX0 2 "told_sum" p_told_sum (spTsum K C)) (h_gathered : Has P w K mg base CX0 1 "gathered" p_gathered (spGath K C CM)) : Has P w K mg base CX0 3 "pushed" p_pushed (spPush K C CM) := by
  refine has_of D sc_pushed (fun _ _ _ _ _ _ us hl => match us, hl with | [_, _], _ => rfl) (fun vs H Q E h => ?_) (fun f cdv A outer s H vs Q E hr h => ?_)
  · obtain ⟨x, c, g, gg, ps, im, sh, n, gn, es, ges, cs, rfl, _⟩ := h
    rfl
  · obtain ⟨x, c, g, gg, ps, im, sh, n, gn, es, ges, cs, rfl, gm, gk, gk2, hrow, lcs, lps, bps, q⟩ := h
    refine ⟨_, (pss_one (ps_ret (pe_h h_gathered hr pass0 (pa_cons (pv 0) (pa_cons (pe_h h_told_sum hr pass0 (pa_cons (fldK (K := K) rfl (pv 0) rfl) (pa_cons (pv 1) pa_nil))) pa_nil))))), ?_⟩
    have gm0 := gm
    obtain ⟨dx, pT, eT, sT, f1, f2, f3, f4⟩ := gm0
    refine ⟨_, rfl, _, rfl, x, CM, dx, _, _, rfl, f1, GM.cls, GM.graph, rfl, _, rfl, g, c, n, es, cs, rfl, gk, hrow, lcs, fun H1 L s1 hL => ?_⟩
    exact ⟨x, L, g, gg, ps, im, sh, gn, ges, cs, rfl, gm.same s1, gk2.same s1, hL, by omega, bps, fun H2 l s2 hl => q H2 l (s1.trans s2) hl⟩
def spPull (K : PySem.W.Frag) (C CM : Addr) : Sp := fun vs H Q _ => ∃ (x c g gg : Addr) (ps : List Nat) (im : List (Option Nat)) (sh : List Nat) (gn : Nat) (ges : List Pr) (cs : List Int), vs = [.ref x, .ref c] ∧ GMap K H CM x g gg ps im sh ∧ Gk H C gg gn ges ∧ (SqL K H c (cs.map V.int) ∨ SqT K H c (cs.map V.int)) ∧ cs.length = gn ∧ sh.length = ps.length ∧ (∀ p ∈ ps, p < gn) ∧ (∀ s ∈ sh, s ≤ 100000) ∧ ps.length ≤ 1000 ∧
  ∀ (H' : Hp) (l : Addr), Same H H' → H' l = some (.tup ((pullL sh ps cs).map V.int)) → Q (.ref l) H'
theorem ok_pulled (D : DefAt K mg "pulled" "pulled" s_pulled) (B : Bt mg) (GM : GMapC K CM) (h_told_sum : Has P w K mg base CX0 2 "told_sum" p_told_sum (spTsum K C)) (h_spread : Has P w K mg base CX0 1 "spread" p_spread (spSpr K CM)) : Has P w K mg base CX0 3 "pulled" p_pulled (spPull K C CM) := by
  refine has_of D sc_pulled (fun _ _ _ _ _ _ us hl => match us, hl with | [_, _], _ => rfl) (fun vs H Q E h => ?_) (fun f cdv A outer s H vs Q E hr h => ?_)
  · obtain ⟨x, c, g, gg, ps, im, sh, gn, ges, cs, rfl, _⟩ := h
    rfl
  · obtain ⟨x, c, g, gg, ps, im, sh, gn, ges, cs, rfl, gm, gk, hrow, lcs, lsh, bps, bsh, lps, q⟩ := h
    refine ⟨_, (pss_one (ps_ret (pe_h h_spread hr pass0 (pa_cons (pv 0) (pa_cons (pe_h h_told_sum hr pass0 (pa_cons (fldK (K := K) rfl (pv 0) rfl) (pa_cons (pv 1) pa_nil))) pa_nil))))), ?_⟩
    have gm0 := gm
    obtain ⟨dx, pT, eT, sT, f1, f2, f3, f4⟩ := gm0
    refine ⟨_, rfl, _, rfl, x, CM, dx, _, _, rfl, f1, GM.cls, GM.goal, rfl, _, rfl, gg, c, gn, ges, cs, rfl, gk, hrow, lcs, fun H1 L s1 hL => ?_⟩
    exact ⟨x, L, g, gg, ps, im, sh, cs, rfl, gm.same s1, hL, lsh, fun p hp => by rw [lcs]; exact bps p hp, bsh, lps, fun H2 l s2 hl => q H2 l (s1.trans s2) hl⟩
def spBrow (K : PySem.W.Frag) (C CM : Addr) : Sp := fun vs H Q _ => ∃ (x g gg kd kd2 : Addr) (ps : List Nat) (im : List (Option Nat)) (sh : List Nat) (n gn : Nat) (es ges : List Pr), vs = [.ref x] ∧ GMap K H CM x g gg ps im sh ∧ Kpt H C g kd n es ∧ Kpt H C gg kd2 gn ges ∧ kd ≠ kd2 ∧ ps.length = n ∧ sh.length = n ∧ (∀ p ∈ ps, p < gn) ∧ (∀ s ∈ sh, s ≤ 100000) ∧
  ∀ (H' : Hp) (l : Addr), But (fun a => a = kd ∨ a = kd2) H H' → Kpt H' C g kd n es → Kpt H' C gg kd2 gn ges → H' l = some (.tup ((brL n es ges ps sh).map V.int)) → Q (.ref l) H'
theorem But.to {X Y : Addr → Prop} {H H' : Hp} (h : But X H H') (e : ∀ a, X a → Y a) : But Y H H' := fun a o n => h a o fun z => n (e a z)
theorem ok_branch_row (D : DefAt K mg "branch_row" "branch_row" s_branch_row) (B : Bt mg) (GM : GMapC K CM) (h_laplace : Has P w K mg base CX0 1 "laplace" p_laplace (spLap C)) (h_valences : Has P w K mg base CX0 2 "valences" p_valences (spVals C)) (h_spread : Has P w K mg base CX0 1 "spread" p_spread (spSpr K CM)) : Has P w K mg base CX0 3 "branch_row" p_branch_row (spBrow K C CM) := by
  refine has_of D sc_branch_row (fun _ _ _ _ _ _ us hl => match us, hl with | [_], _ => rfl) (fun vs H Q E h => ?_) (fun f cdv A outer s H vs Q E hr h => ?_)
  · obtain ⟨x, g, gg, kd, kd2, ps, im, sh, n, gn, es, ges, rfl, _⟩ := h
    rfl
  · obtain ⟨x, g, gg, kd, kd2, ps, im, sh, n, gn, es, ges, rfl, gm, k1, k2, nek, lps, lsh, bps, bsh, q⟩ := h
    refine ⟨_, (pss_cons (ps_setLc (i := 1) (own := [("many", 3)]) (g := gName 3) (tt := tYes) rfl sc_branch_row.nd rfl rfl (sw_true rfl rfl rfl (by decide +kernel)) (piL (K := K) rfl (pe_h h_valences hr pass0 (pa_cons (fldK (K := K) rfl (pv 0) rfl) pa_nil))) (blkOk_by (N := n_branch_row) (sc := defScope s_branch_row) (by decide +kernel)) (fun _ _ _ _ _ => (pg_name (i := 3) sc_branch_row.nd rfl (.inl rfl))) (fun _ _ _ _ _ => pts_nil) (fun _ _ _ _ _ => (pe_op op_sub (pv 3) pe_int)))
  (pss_cons (ps_set (i := 2) sc_branch_row.nd rfl (.inl rfl) (pe_h h_spread hr pass0 (pa_cons (pv 0) (pa_cons (pe_lc (own := [("place", 4), ("line", 5)]) (g := _) (tt := tYes) rfl sc_branch_row.nd (pi_enumR (K := K) rfl rfl B.enumerate (pa_cons (pe_h h_laplace hr pass0 (pa_cons (fldK (K := K) rfl (pv 0) rfl) pa_nil)) pa_nil)) (blkOk_by (N := n_branch_row) (sc := defScope s_branch_row) (by decide +kernel)) (fun _ _ _ _ _ => (pgT (K := K) (n := 2) rfl rfl (pgs_cons (pg_name (i := 4) sc_branch_row.nd rfl (.inl rfl)) (pgs_cons (pg_name (i := 5) sc_branch_row.nd rfl (.inl rfl)) pgs_nil)))) (fun _ _ _ _ _ => pts_nil) (fun _ _ _ _ _ => (pe_op op_sub (pe_ix (ixT (K := K) rfl) (pv 5) (pv 4) (fun _ _ => rfl)) pe_int))) pa_nil))))
  (pss_one (ps_ret (pe_callTy (tupK (K := K) rfl) rfl B.tuple (by decide +kernel) (pa_cons (pe_lc (own := [("one", 6), ("more", 7)]) (g := _) (tt := tYes) rfl sc_branch_row.nd (pi_zipN (K := K) rfl rfl B.zip (pa_cons (pv 1) (pa_cons (pv 2) pa_nil))) (blkOk_by (N := n_branch_row) (sc := defScope s_branch_row) (by decide +kernel)) (fun _ _ _ _ _ => (pgT (K := K) (n := 2) rfl rfl (pgs_cons (pg_name (i := 6) sc_branch_row.nd rfl (.inl rfl)) (pgs_cons (pg_name (i := 7) sc_branch_row.nd rfl (.inl rfl)) pgs_nil)))) (fun _ _ _ _ _ => pts_nil) (fun _ _ _ _ _ => (pe_op op_sub (pv 6) (pv 7)))) pa_nil)))))), ?_⟩
    have gm0 := gm
    obtain ⟨dx, pT, eT, sT, f1, f2, f3, f4⟩ := gm0
    have hn64 := k1.1.2.2.2.1
    have hg64 := k2.1.2.2.2.1
    refine ⟨_, rfl, x, CM, dx, _, _, rfl, f1, GM.cls, GM.graph, rfl, g, kd, n, es, rfl, k1, fun H1 L b1 k1' hL => ?_⟩
    have kp1 := k1.kp k1' b1
    have k2' : Kpt H1 C gg kd2 gn ges := k2.but kp1 fun o e => b1 _ _ (fun z => nek z.symm) e
    refine ⟨L, rfl, ⟨_, SqL.of hL⟩, fun O nO => ?_⟩
    refine lc_list (K := K) (a := L) (xs := (List.range n).map fun v => nV (val es v)) (fun j H2 => Same H1 H2 ∧ H2 O = some (.lst (((List.range j).map fun p => ((val es p : Nat) : Int) - 2).map V.int))) ⟨same_upd nO, upd_same⟩ (fun j H2 _ p => SqL.of (p.1 _ _ hL)) ?_ ?_
    · rintro j y H2 hy ⟨sm, hO⟩
      rw [List.getElem?_map] at hy
      obtain ⟨v, hv, rfl⟩ := Option.map_eq_some_iff.mp hy
      have hj : j < n := by have := (List.getElem?_eq_some_iff.mp hv).1; rwa [List.length_range] at this
      rw [List.getElem?_range hj] at hv
      obtain rfl := Option.some.inj hv
      refine ⟨rfl, yes_ ?_⟩
      refine ⟨_, rfl, _, _, rfl, rfl, _, hO, size_lt (by rw [List.length_map, List.length_map, List.length_range]; omega), same_mut sm nO, ?_⟩
      rw [upd_same, List.range_succ, List.map_append, List.map_append]; rfl
    rintro H2 ⟨s2, hO⟩
    rw [List.length_map, List.length_range] at hO
    have gm2 := (kp1.trans (Same.kp s2)).gmap gm
    have gm2' := gm2
    obtain ⟨dx2, pT2, eT2, sT2, e1, e2, e3, e4⟩ := gm2
    refine ⟨_, rfl, _, rfl, x, CM, dx2, _, _, rfl, e1, GM.cls, GM.goal, rfl, gg, kd2, gn, ges, rfl, k2'.same s2, fun H3 t b3 k2'' ⟨rs, ht, hrs⟩ => ?_⟩
    have kp3 := (k2'.same s2).kp k2'' b3
    have k1'' : Kpt H3 C g kd n es := (k1'.same s2).but kp3 fun o e => b3 _ _ nek e
    have hO3 := kp3.lst hO
    have lrs : rs.length = gn := by rw [hrs.len, List.length_range]
    refine ⟨t, rfl, .inr ⟨⟨_, SqT.of ht⟩, fun R nR => ?_⟩⟩
    refine lc_it (walk_enumT (K := K) (a := t) (xs := rs)) (fun j H4 => Same H3 H4 ∧ H4 R = some (.lst (((List.range j).map fun v => ((val ges v : Nat) : Int) - 2).map V.int))) ⟨same_upd nR, upd_same⟩ (fun j H4 _ p => SqT.of (p.1 _ _ ht)) ?_ ?_
    · rintro j y H4 H5 hj ⟨sm4, hR⟩ ⟨T0, x1, y1, rfl, nT0, rfl, hx1, hy1⟩
      cases hx1
      have hjn : j < gn := by omega
      obtain ⟨v, g1, a, xs, rfl, g2, g3, g4⟩ := All2.get hrs (i := j) (r := j) (by rw [List.getElem?_range hjn])
      have hy1 : rs[j]? = some y1 := hy1
      rw [hy1] at g1
      obtain rfl := Option.some.inj g1
      have sT : Same H4 (upd H4 T0 (.tup [.int (j : Nat), .ref a])) := same_upd nT0
      have hR5 := sT _ _ hR
      have ha5 := sT _ _ (sm4 _ _ g2)
      have hj2 : (xs.map V.int)[j]? = some (nV (val ges j)) := by rw [List.getElem?_map, g4]; rfl
      refine ⟨T0, _, rfl, SqT.of upd_same, rfl, _, _, rfl, _, _, rfl, rfl, rfl, yes_ ?_⟩
      refine ⟨_, rfl, _, rfl, _, _, j, _, rfl, rfl, SqT.of ha5, atI_nat hj2, _, _, rfl, rfl, ?_⟩
      refine ⟨_, hR5, size_lt (by rw [List.length_map, List.length_map, List.length_range]; omega), same_mut (sm4.trans sT) nR, ?_⟩
      rw [upd_same, List.range_succ, List.map_append, List.map_append]; rfl
    rintro H4 ⟨s4, hR⟩
    rw [lrs] at hR
    have gm4 := (kp3.trans (Same.kp s4)).gmap gm2'
    refine ⟨x, R, g, gg, ps, im, sh, _, rfl, gm4, hR, by omega, fun p hp => by rw [List.length_map, List.length_range]; exact bps p hp, bsh, by omega, fun H5 l s5 hl => ?_⟩
    have hO5 := s5 _ _ (s4 _ _ hO3)
    have lown : (((List.range n).map fun p => ((val es p : Nat) : Int) - 2).map V.int).length = ((pullL sh ps ((List.range gn).map fun v => ((val ges v : Nat) : Int) - 2)).map V.int).length := by
      unfold pullL
      rw [List.length_map, List.length_map, List.length_range, List.length_map, List.length_map, List.length_range, lps]
    refine ⟨_, rfl, _, rfl, O, l, _, _, rfl, SqL.of hO5, SqT.of hl, fun F nF => ?_⟩
    refine lc_it (walk_zipN (K := K) (a := O) (b := l) lown) (fun j H6 => Same H5 H6 ∧ H6 F = some (.lst (((List.range j).map fun p => (((val es p : Nat) : Int) - 2) - ((sh.getD p 0 : Nat) : Int) * (((val ges (ps.getD p 0) : Nat) : Int) - 2)).map V.int))) ⟨same_upd nF, upd_same⟩ (fun j H6 _ p => ⟨SqL.of (p.1 _ _ hO5), SqT.of (p.1 _ _ hl)⟩) ?_ ?_
    · rintro j y0 H6 H7 hj ⟨sm6, hF⟩ ⟨T0, x1, y1, rfl, nT0, rfl, hx1, hy1⟩
      rw [List.length_map, List.length_map, List.length_range] at hj
      have hx1 : (((List.range n).map fun p => ((val es p : Nat) : Int) - 2).map V.int)[j]? = some x1 := hx1
      have hy1 : ((pullL sh ps ((List.range gn).map fun v => ((val ges v : Nat) : Int) - 2)).map V.int)[j]? = some y1 := hy1
      have hpl : ps.getD j 0 < gn := by
        have hj2 : j < ps.length := by omega
        rw [List.getD_eq_getElem?_getD, List.getElem?_eq_getElem hj2]
        exact bps _ (List.getElem_mem hj2)
      unfold pullL at hy1
      rw [List.getElem?_map, List.getElem?_map, List.getElem?_range hj] at hx1
      rw [List.getElem?_map, List.getElem?_map, List.getElem?_range (by omega)] at hy1
      obtain rfl := Option.some.inj hx1
      obtain rfl := Option.some.inj hy1
      have s7 : Same H6 (upd H6 T0 (.tup [.int (((val es j : Nat) : Int) - 2), .int (((sh.getD j 0 : Nat) : Int) * gi ((List.range gn).map fun v => ((val ges v : Nat) : Int) - 2) (ps.getD j 0))])) := same_upd nT0
      have hF7 := s7 _ _ hF
      refine ⟨T0, _, rfl, SqT.of upd_same, rfl, _, _, rfl, _, _, rfl, rfl, rfl, yes_ ?_⟩
      refine ⟨_, rfl, _, rfl, _, _, rfl, rfl, ?_⟩
      have hV : gi ((List.range gn).map fun v => ((val ges v : Nat) : Int) - 2) (ps.getD j 0) = ((val ges (ps.getD j 0) : Nat) : Int) - 2 := gi_range hpl
      refine ⟨_, hF7, size_lt (by rw [List.length_map, List.length_map, List.length_range]; omega), same_mut (sm6.trans s7) nF, ?_⟩
      rw [upd_same, List.range_succ, List.map_append, List.map_append]
      show some (HO.lst (_ ++ [V.int ((((val es j : Nat) : Int) - 2) - ((sh.getD j 0 : Nat) : Int) * gi ((List.range gn).map fun v => ((val ges v : Nat) : Int) - 2) (ps.getD j 0))])) = _
      rw [hV]; rfl
    · rintro H6 ⟨s6, hF⟩
      rw [List.length_map, List.length_map, List.length_range] at hF
      refine ⟨F, _, rfl, .inl ⟨SqL.of hF, fun l2 nl2 => ?_⟩⟩
      have s36 := s4.trans (s5.trans (s6.trans (same_upd (o := .tup (((List.range n).map fun p => (((val es p : Nat) : Int) - 2) - ((sh.getD p 0 : Nat) : Int) * (((val ges (ps.getD p 0) : Nat) : Int) - 2)).map V.int)) nl2)))
      have bb : But (fun a => a = kd ∨ a = kd2) H3 _ := Same.but s36
      exact q _ l2 ((b1.to fun a z => .inl z).trans ((Same.but s2).trans ((b3.to fun a z => .inr z).trans bb))) (k1''.same s36) (k2''.same s36) upd_same
def spMA (K : PySem.W.Frag) (C CM CB : Addr) : Sp := fun vs H Q E => ∃ (x1 x2 g1 gg1 g2 gg2 : Addr) (ps1 ps2 : List Nat) (im1 im2 : List (Option Nat)) (sh1 sh2 : List Nat) (n1 m n2 gn : Nat) (es1 fs es2 ges : List Pr), vs = [.ref x1, .ref x2] ∧ GMap K H CM x1 g1 gg1 ps1 im1 sh1 ∧ GMap K H CM x2 g2 gg2 ps2 im2 sh2 ∧ Gk H C g1 n1 es1 ∧ Gk H C gg1 m fs ∧ Gk H C g2 n2 es2 ∧ Gk H C gg2 gn ges ∧ ps1.length ≤ 1000 ∧ im1.length ≤ 1000 ∧
  (m = n2 ∧ fs = es2 → (∀ p ∈ ps1, p < ps2.length) ∧ (∀ k, some k ∈ im1 → k < im2.length) ∧ faultM n1 es1 gn ges (natsD (compP ps2 ps1)) (optsD (compI im2 im1)) = none) ∧
  (∀ (H' : Hp) (x : Addr), Same H H' → m = n2 ∧ fs = es2 → GMap K H' CM x g1 gg2 (compP ps2 ps1) (compI im2 im1) (shOf es1 (compI im2 im1) ges (compP ps2 ps1) n1) → Q (.ref x) H') ∧
  (∀ (H' : Hp) (l : Addr), Same H H' → H l = none → ¬ (m = n2 ∧ fs = es2) → xRN H' l "goal" .non → E (.ref CB) (some l) H')
theorem ok_map_after (D : DefAt K mg "map_after" "map_after" s_map_after) (B : Bt mg) (GM : GMapC K CM) (T : SupRN.SupTxt P K mg "BadGraphMap" CB fB) (h_GEq : HasEq P w K mg base 1 C p_Graph___eq__ (spGEq C)) (hne : PySem.W.findIn K (.ref C) "__ne__" = some (some (.builtin "object.__ne__"))) (hmro : PySem.W.mroIn K C (.type "object") = some true)
    (mk_GraphMap : HasMk P w K mg base (L2.CX P w) 4 "GraphMap" CM p_GraphMap___init__ (spGM K C CM CB)) : Has P w K mg base (L2.CX P w) 6 "map_after" p_map_after (spMA K C CM CB) := by
  refine has_ofX D sc_map_after (fun _ _ _ _ _ _ us hl => match us, hl with | [_, _], _ => rfl) (fun vs H Q E h => ?_) (fun f cdv A outer s H vs Q E hr h => ?_)
  · obtain ⟨x1, x2, g1, gg1, g2, gg2, ps1, ps2, im1, im2, sh1, sh2, n1, m, n2, gn, es1, fs, es2, ges, rfl, _⟩ := h
    rfl
  · obtain ⟨x1, x2, g1, gg1, g2, gg2, ps1, ps2, im1, im2, sh1, sh2, n1, m, n2, gn, es1, fs, es2, ges, rfl, gm1, gm2, gk1, gkm, gk2, gkg, lps1, lim1, hyp, q, qe⟩ := h
    have tk : Takes (cxOf (L2.CX P w) P w K mg base n_map_after "map_after" (defScope s_map_after) f cdv A outer s H E) (fun cls d _ H => E cls d H) := takes_of rfl rfl rfl rfl
    refine ⟨_, (pss_cons (ps_if (pt_cmpR (op_neO (j := 5) h_GEq hr hne hmro (by decide)) (fldK (K := K) rfl (pv 0) rfl) (fldK (K := K) rfl (pv 1) rfl) (nomark _)) (pss_one (ps_raiseSupRN rfl T hr tk (pa_cons pe_str (pa_cons pe_non pa_nil)))) pss_nil)
  (pss_cons (ps_setLc (i := 2) (own := [("place", 4)]) (g := gName 4) (tt := tYes) rfl sc_map_after.nd rfl rfl (sw_true rfl rfl rfl (by decide +kernel)) (piT (K := K) rfl (fldK (K := K) rfl (pv 0) rfl)) (blkOk_by (N := n_map_after) (sc := defScope s_map_after) (by decide +kernel)) (fun _ _ _ _ _ => (pg_name (i := 4) sc_map_after.nd rfl (.inl rfl))) (fun _ _ _ _ _ => pts_nil) (fun _ _ _ _ _ => (pe_ix (ixT (K := K) rfl) (fldK (K := K) rfl (pv 1) rfl) (pv 4) (fun _ _ => rfl))))
  (pss_cons (ps_setLc (i := 3) (own := [("edge", 5)]) (g := gName 5) (tt := tYes) rfl sc_map_after.nd rfl rfl (sw_true rfl rfl rfl (by decide +kernel)) (piT (K := K) rfl (fldK (K := K) rfl (pv 0) rfl)) (blkOk_by (N := n_map_after) (sc := defScope s_map_after) (by decide +kernel)) (fun _ _ _ _ _ => (pg_name (i := 5) sc_map_after.nd rfl (.inl rfl))) (fun _ _ _ _ _ => pts_nil) (fun _ _ _ _ _ => (pe_ifExp (pt_cmpR op_isN (pv 5) pe_non (nomark _)) pe_non (pe_ix (ixT (K := K) rfl) (fldK (K := K) rfl (pv 1) rfl) (pv 5) (fun _ _ => rfl)))))
  (pss_one (ps_ret (pe_makeS mk_GraphMap hr (fun σ => passAt tk σ) (pa_cons (fldK (K := K) rfl (pv 0) rfl) (pa_cons (fldK (K := K) rfl (pv 1) rfl) (pa_cons (pv 2) (pa_cons (pv 3) pa_nil)))))))))), ?_⟩
    have gm1' := gm1
    have gm2' := gm2
    obtain ⟨dx1, pT1, eT1, sT1, a1, a2, a3, a4⟩ := gm1'
    obtain ⟨dx2, pT2, eT2, sT2, b1, b2, b3, b4⟩ := gm2'
    have gA := gkm
    have gB := gk2
    obtain ⟨⟨kd, dg, eg, vg, hg, _, _⟩, _⟩ := gA
    obtain ⟨⟨kd2, dg2, eg2, vg2, hg2, _, _⟩, _⟩ := gB
    refine ⟨_, rfl, x1, CM, dx1, _, _, rfl, a1, GM.cls, GM.goal, rfl, _, rfl, x2, CM, dx2, _, _, rfl, b1, GM.cls, GM.graph, rfl, ?_⟩
    refine ⟨gg1, g2, _, _, _, _, rfl, rfl, hg, hg2, ⟨gg1, g2, m, n2, fs, es2, rfl, gkm, gk2, _, rfl, _, rfl, ?_⟩⟩
    by_cases ce : m = n2 ∧ fs = es2
    case neg =>
      rw [decide_eq_false ce]
      exact iteT ⟨_, _, rfl, fun l nl => qe _ l (same_upd nl) nl ce upd_same⟩
    rw [decide_eq_true ce]
    refine iteF ?_
    obtain ⟨hy1, hy2, hy3⟩ := hyp ce
    -- places
    refine ⟨_, rfl, x1, CM, dx1, _, _, rfl, a1, GM.cls, GM.places, rfl, pT1, rfl, ⟨_, a2⟩, fun L nL => ?_⟩
    refine lc_tup (K := K) (a := pT1) (xs := ps1.map nV) (fun j H2 => Same H H2 ∧ H2 L = some (.lst ((compP ps2 (ps1.take j)).map nV))) ⟨same_upd nL, upd_same⟩ (fun j H2 _ p => Same.seqT p.1 a2) ?_ ?_
    · rintro j y H2 hy ⟨sm, hL⟩
      rw [List.getElem?_map] at hy
      obtain ⟨p, hp, rfl⟩ := Option.map_eq_some_iff.mp hy
      have hj : j < ps1.length := (List.getElem?_eq_some_iff.mp hp).1
      have hpl := hy1 p (List.mem_of_getElem? hp)
      refine ⟨rfl, yes_ ?_⟩
      refine ⟨_, rfl, x2, CM, dx2, _, _, rfl, sm _ _ b1, GM.cls, GM.places, rfl, _, rfl, _, _, p, _, rfl, rfl, Same.seqT sm b2, atI_nat (map_n hpl), ?_⟩
      refine ⟨_, hL, size_lt (by unfold compP; rw [List.length_map, List.length_map, List.length_take]; omega), same_mut sm nL, ?_⟩
      rw [upd_same]
      unfold compP
      rw [List.take_add_one, hp, List.map_append, List.map_append]; rfl
    rintro H2 ⟨s2, hL⟩
    rw [List.length_map, List.take_length] at hL
    refine ⟨_, rfl, x1, CM, dx1, _, _, rfl, s2 _ _ a1, GM.cls, GM.edges, rfl, eT1, rfl, ⟨_, Same.seqT s2 a3⟩, fun M nM => ?_⟩
    refine lc_tup (K := K) (a := eT1) (xs := im1.map optV) (fun j H3 => Same H2 H3 ∧ H3 M = some (.lst ((compI im2 (im1.take j)).map optV))) ⟨same_upd nM, upd_same⟩ (fun j H3 _ p => Same.seqT (s2.trans p.1) a3) ?_ ?_
    · rintro j y H3 hy ⟨sm, hM⟩
      rw [List.getElem?_map] at hy
      obtain ⟨o, ho, rfl⟩ := Option.map_eq_some_iff.mp hy
      have hj : j < im1.length := (List.getElem?_eq_some_iff.mp ho).1
      have lacc : ((compI im2 (im1.take j)).map optV).length < sizeLine := size_lt (by unfold compI; rw [List.length_map, List.length_map, List.length_take]; omega)
      have et : compI im2 (im1.take (j + 1)) = compI im2 (im1.take j) ++ [o.bind fun k => im2.getD k none] := by
        unfold compI
        rw [List.take_add_one, ho, List.map_append]; rfl
      refine ⟨rfl, yes_ ?_⟩
      rw [et, List.map_append]
      cases o with
      | none => exact ⟨_, rfl, rfl, _, rfl, iteT ⟨_, hM, lacc, same_mut sm nM, upd_same⟩⟩
      | some k =>
        have hk := hy2 k (List.mem_of_getElem? ho)
        have hk2 : (im2.map optV)[k]? = some (optV (im2.getD k none)) := by
          rw [List.getElem?_map, List.getD_eq_getElem?_getD, List.getElem?_eq_getElem hk]; rfl
        refine ⟨_, rfl, rfl, _, rfl, iteF ?_⟩
        refine ⟨_, rfl, x2, CM, dx2, _, _, rfl, (s2.trans sm) _ _ b1, GM.cls, GM.edges, rfl, _, rfl, _, _, k, _, rfl, rfl, Same.seqT (s2.trans sm) b3, atI_nat hk2, _, hM, lacc, same_mut sm nM, upd_same⟩
    rintro H3 ⟨s3, hM⟩
    rw [List.length_map, List.take_length] at hM
    have s03 := s2.trans s3
    have hL3 := s3 _ _ hL
    refine ⟨_, rfl, x1, CM, dx1, _, _, rfl, s03 _ _ a1, GM.cls, GM.graph, rfl, _, rfl, x2, CM, dx2, _, _, rfl, s03 _ _ b1, GM.cls, GM.goal, rfl, _, rfl, _, rfl, fun x dx nx ndx hnex => ?_⟩
    have t1 : Same H3 (upd H3 dx (.own x)) := same_upd ndx
    have nx1 : (upd H3 dx (.own x)) x = none := by rw [upd_ne (Ne.symm hnex)]; exact nx
    have t2 : Same (upd H3 dx (.own x)) (upd (upd H3 dx (.own x)) x (.ins CM dx [])) := same_upd nx1
    have dpn : ∀ l : List Nat, DpAll K H3 (l.map nV) (l.map fun p : Nat => PyData.int (p : Int)) := fun l => by
      induction l with
      | nil => exact .nil
      | cons a l ih => rw [List.map_cons, List.map_cons]; exact .cons (.int _) ih
    have dpo : ∀ l : List (Option Nat), DpAll K H3 (l.map optV) (l.map optP) := fun l => by
      induction l with
      | nil => exact .nil
      | cons a l ih =>
        rw [List.map_cons, List.map_cons]
        cases a with
        | none => exact .cons .non ih
        | some k => exact .cons (.int _) ih
    refine ⟨H3, x, dx, g1, gg2, n1, gn, es1, ges, .ref L, .ref M, natsD (compP ps2 ps1), optsD (compI im2 im1), rfl, t1.trans t2, nx, upd_same, gk1.same s03, gkg.same s03, .inl (.lst (SqL.of hL3) (dpn _)), .inl (.lst (SqL.of hM) (dpo _)), fun H4 s4 hf gm => ⟨rfl, ?_⟩, fun H4 l r num _ _ hf _ => by rw [hy3] at hf; cases hf⟩
    have ep : plOf (natsD (compP ps2 ps1)) = compP ps2 ps1 := by
      show ((compP ps2 ps1).map fun p : Nat => PyData.int (p : Int)).map natD = _
      rw [List.map_map]
      refine (List.map_congr_left fun p _ => ?_).trans (List.map_id _)
      rfl
    have ei : imOf (optsD (compI im2 im1)) = compI im2 im1 := by
      show ((compI im2 im1).map optP).map optD = _
      rw [List.map_map]
      refine (List.map_congr_left fun o _ => ?_).trans (List.map_id _)
      cases o <;> rfl
    rw [ep, ei] at gm
    exact q H4 x (s03.trans s4) ce gm
end
end G3

set_option Elab.async false
set_option linter.all false
set_option maxRecDepth 100000
set_option maxHeartbeats 2000000
namespace G3
open PySem PySem.Spec PyProof.Rows L2
/-! ## the law's own: pieces, sheets, goal -/
def PieceOk (es : List Pr) (grp : List Nat) : Prop := ∀ f : Nat → Bool, (∀ e ∈ es, f e.1 = f e.2) → ∀ i j : Nat, i < grp.length → j < grp.length → grp.getD i 0 = grp.getD j 0 → f i = f j
def mergeG (grp : List Nat) (u v : Nat) : List Nat := grp.map fun m => if m = grp.getD v 0 then grp.getD u 0 else m
theorem piece_nil (n : Nat) : PieceOk [] (List.range n) := fun f _ i j hi hj e => by
  rw [List.length_range] at hi hj
  rw [List.getD_eq_getElem?_getD, List.getD_eq_getElem?_getD, List.getElem?_range hi, List.getElem?_range hj] at e
  have e : i = j := e
  rw [e]
theorem piece_skip {es : List Pr} {grp : List Nat} {e : Pr} (h : PieceOk es grp) : PieceOk (es ++ [e]) grp := fun f hf => h f fun x hx => hf x (List.mem_append_left _ hx)
theorem piece_merge {es : List Pr} {grp : List Nat} {u v : Nat} (h : PieceOk es grp) (hu : u < grp.length) (hv : v < grp.length) : PieceOk (es ++ [(u, v)]) (mergeG grp u v) := fun f hf i j hi hj e => by
  have hf1 : ∀ x ∈ es, f x.1 = f x.2 := fun x hx => hf x (List.mem_append_left _ hx)
  have huv : f u = f v := hf (u, v) (List.mem_append_right _ (List.mem_singleton.mpr rfl))
  have key := h f hf1
  unfold mergeG at hi hj e
  rw [List.length_map] at hi hj
  have g : ∀ k, k < grp.length → (grp.map fun m => if m = grp.getD v 0 then grp.getD u 0 else m).getD k 0 = if grp.getD k 0 = grp.getD v 0 then grp.getD u 0 else grp.getD k 0 := fun k hk => by
    rw [List.getD_eq_getElem?_getD, List.getElem?_map, List.getElem?_eq_getElem hk, List.getD_eq_getElem?_getD (l := grp) (i := k), List.getElem?_eq_getElem hk]; rfl
  rw [g i hi, g j hj] at e
  by_cases ci : grp.getD i 0 = grp.getD v 0
  · have fi := key i v hi hv ci
    by_cases cj : grp.getD j 0 = grp.getD v 0
    · rw [fi, key j v hj hv cj]
    · rw [if_pos ci, if_neg cj] at e
      rw [fi, ← huv, key u j hu hj e]
  · by_cases cj : grp.getD j 0 = grp.getD v 0
    · rw [if_neg ci, if_pos cj] at e
      rw [key j v hj hv cj, ← huv, key i u hi hu e]
    · rw [if_neg ci, if_neg cj] at e
      exact key i j hi hj e
theorem map_get {grp : List Nat} {i : Nat} (h : i < grp.length) : (grp.map nV)[i]? = some (nV (grp.getD i 0)) := by
  rw [List.getElem?_map, List.getD_eq_getElem?_getD, List.getElem?_eq_getElem h]; rfl
section
variable {P : Program} {w : World} {K : PySem.W.Frag} {mg : Str → Option Value} {base : Heap} {C CB fB : Addr}
abbrev n_law_pieces : List Str := ["n", "pairs", "group", "u", "v", "gone", "kept", "mark"]
abbrev p_law_pieces : List Str := ["n", "pairs"]
theorem sc_law_pieces : FnScope n_law_pieces p_law_pieces (defScope s_law_pieces) := ⟨rfl, rfl, rfl, by decide +kernel, rfl, by decide +kernel, by decide +kernel⟩
abbrev n_law_sheets : List Str := ["pool", "degree", "found", "left", "turn"]
abbrev p_law_sheets : List Str := ["pool", "degree"]
theorem sc_law_sheets : FnScope n_law_sheets p_law_sheets (defScope s_law_sheets) := ⟨rfl, rfl, rfl, by decide +kernel, rfl, by decide +kernel, by decide +kernel⟩
abbrev n_law_goal : List Str := ["pool", "most", "genus", "n", "edges"]
abbrev p_law_goal : List Str := ["pool", "most", "genus"]
theorem sc_law_goal : FnScope n_law_goal p_law_goal (defScope s_law_goal) := ⟨rfl, rfl, rfl, by decide +kernel, rfl, by decide +kernel, by decide +kernel⟩
def spPieces : Sp := fun vs H Q _ => ∃ (n : Nat) (l : Addr) (es : List Pr), vs = [nV n, .ref l] ∧ n ≤ 1000 ∧ PLst H l es ∧ (∀ e ∈ es, e.1 < n ∧ e.2 < n) ∧
  ∀ (H' : Hp) (L : Addr) (grp : List Nat), Same H H' → H' L = some (.lst (grp.map nV)) → grp.length = n → PieceOk es grp → Q (.ref L) H'
theorem ok_pieces (D : DefAt K mg "_law_pieces" "_law_pieces" s_law_pieces) (B : Bt mg) : Has P w K mg base CX0 1 "_law_pieces" p_law_pieces spPieces := by
  refine has_of D sc_law_pieces (fun _ _ _ _ _ _ us hl => match us, hl with | [_, _], _ => rfl) (fun vs H Q E h => ?_) (fun f cdv A outer s H vs Q E hr h => ?_)
  · obtain ⟨n, l, es, rfl, _⟩ := h
    rfl
  · obtain ⟨n, l, es, rfl, hn, ⟨us, hl, hus⟩, hes, q⟩ := h
    refine ⟨_, (pss_cons (ps_set (i := 2) sc_law_pieces.nd rfl (.inl rfl) (pe_listRg rfl rfl B.list (prg_1 rfl B.range (pv 0))))
  (pss_cons (ps_for PassesOwn.never rfl (piL (K := K) rfl (pv 1)) (pgT (K := K) (n := 2) rfl rfl (pgs_cons (pg_name (i := 3) sc_law_pieces.nd rfl (.inl rfl)) (pgs_cons (pg_name (i := 4) sc_law_pieces.nd rfl (.inl rfl)) pgs_nil))) (pss_one (ps_if (pt_cmpR op_ne (pe_ix (ixL (K := K) rfl) (pv 2) (pv 3) (fun _ _ => rfl)) (pe_ix (ixL (K := K) rfl) (pv 2) (pv 4) (fun _ _ => rfl)) (nomark _)) (pss_cons (ps_asg (pe_tup (pa_cons (pe_ix (ixL (K := K) rfl) (pv 2) (pv 4) (fun _ _ => rfl)) (pa_cons (pe_ix (ixL (K := K) rfl) (pv 2) (pv 3) (fun _ _ => rfl)) pa_nil))) (pgT (K := K) (n := 2) rfl rfl (pgs_cons (pg_name (i := 5) sc_law_pieces.nd rfl (.inr rfl)) (pgs_cons (pg_name (i := 6) sc_law_pieces.nd rfl (.inr rfl)) pgs_nil))))
  (pss_one (ps_setLc (i := 2) (own := [("mark", 7)]) (g := gName 7) (tt := tYes) rfl sc_law_pieces.nd rfl rfl (sw_true rfl rfl rfl (by decide +kernel)) (piL (K := K) rfl (pv 2)) (blkOk_by (N := n_law_pieces) (sc := defScope s_law_pieces) (by decide +kernel)) (fun _ _ _ _ _ => (pg_name (i := 7) sc_law_pieces.nd rfl (.inl rfl))) (fun _ _ _ _ _ => pts_nil) (fun _ _ _ _ _ => (pe_ifExp (pt_cmpR op_eq (pv 7) (pv 5) (nomark _)) (pv 6) (pv 7)))))) pss_nil)))
  (pss_one (ps_ret (pv 2))))), ?_⟩
    refine ⟨_, rfl, (n : Int), rfl, .of_le (by decide) (by omega) (by decide) (by omega), fun g0 ng0 => ?_⟩
    have en : rgV 0 (n : Int) = (List.range n).map nV := rgV_nat (m := (n : Int)) |>.trans (by rfl)
    have s0 : Same H (upd H g0 (.lst (rgV 0 (n : Int)))) := same_upd ng0
    have hg0 : (upd H g0 (.lst (rgV 0 (n : Int)))) g0 = some (.lst ((List.range n).map nV)) := by rw [upd_same, en]
    refine ⟨_, rfl, l, rfl, ⟨_, SqL.of (s0 _ _ hl)⟩, ?_⟩
    refine for_list (K := K) (a := l) (xs := us) (fun i σ H' => ∃ (G0 : Addr) (y z a b : Option V) (grp : List Nat), σ = [some (nV n), some (.ref l), some (.ref G0), y, z, a, b, none] ∧ Same H H' ∧ H' G0 = some (.lst (grp.map nV)) ∧ grp.length = n ∧ PieceOk (es.take i) grp) ?_ ?_ ?_ ?_
    · exact ⟨g0, _, _, _, _, List.range n, rfl, s0, hg0, List.length_range, piece_nil n⟩
    · rintro i σ H' _ ⟨_, _, _, _, _, _, _, sm, _⟩
      exact SqL.of (sm _ _ hl)
    · rintro i x σ H' hx ⟨G0, y, z, a, b, grp, rfl, sm, hG, lg, pk⟩
      have hi : i < es.length := by rw [← hus.len]; exact (List.getElem?_eq_some_iff.mp hx).1
      obtain ⟨t, e1, e2⟩ := hus.get hi
      rw [hx] at e1
      obtain rfl := Option.some.inj e1
      obtain ⟨b1, b2⟩ := hes _ (List.getElem_mem hi)
      have et : es.take (i + 1) = es.take i ++ [es[i]] := by rw [List.take_add_one, List.getElem?_eq_getElem hi]; rfl
      generalize es[i] = e at e2 b1 b2 et
      obtain ⟨u, v⟩ := e
      have b1 : u < n := b1
      have b2 : v < n := b2
      refine ⟨t, _, rfl, SqT.of (sm _ _ e2), rfl, _, _, rfl, _, _, rfl, rfl, ?_⟩
      have hu := map_get (grp := grp) (show u < grp.length by omega)
      have hv := map_get (grp := grp) (show v < grp.length by omega)
      refine ⟨_, rfl, _, rfl, _, _, u, _, rfl, rfl, SqL.of hG, atI_nat hu, _, rfl, _, rfl, _, _, v, _, rfl, rfl, SqL.of hG, atI_nat hv, rfl, _, rfl, ifN (fun _ => ?_) (fun _ => ?_)⟩
      · refine ⟨_, rfl, _, rfl, _, _, v, _, rfl, rfl, SqL.of hG, atI_nat hv, _, rfl, _, rfl, _, _, u, _, rfl, rfl, SqL.of hG, atI_nat hu, by show 2 ≤ sizeLine; decide, fun T nT => ?_⟩
        have sT : Same H' (upd H' T (.tup [nV (grp.getD v 0), nV (grp.getD u 0)])) := same_upd nT
        have hT : (upd H' T (.tup [nV (grp.getD v 0), nV (grp.getD u 0)])) T = some (.tup [nV (grp.getD v 0), nV (grp.getD u 0)]) := upd_same
        have hG1 := sT _ _ hG
        generalize upd H' T (.tup [nV (grp.getD v 0), nV (grp.getD u 0)]) = H1 at sT hT hG1 ⊢
        refine ⟨T, _, rfl, SqT.of hT, rfl, _, _, rfl, _, _, rfl, rfl, ?_⟩
        refine ⟨_, rfl, G0, rfl, ⟨_, SqL.of hG1⟩, fun N nN => ?_⟩
        refine lc_list (K := K) (a := G0) (xs := grp.map nV) (fun j H2 => Same H1 H2 ∧ H2 N = some (.lst (((grp.take j).map fun m => if m = grp.getD v 0 then grp.getD u 0 else m).map nV))) ⟨same_upd nN, upd_same⟩ (fun j H2 _ p => SqL.of (p.1 _ _ hG1)) ?_ ?_
        · rintro j x H2 hx2 ⟨sm2, hN⟩
          rw [List.getElem?_map] at hx2
          obtain ⟨m, hm, rfl⟩ := Option.map_eq_some_iff.mp hx2
          have hj : j < grp.length := (List.getElem?_eq_some_iff.mp hm).1
          refine ⟨rfl, yes_ ?_⟩
          have ej : (grp.take (j + 1)).map (fun m => if m = grp.getD v 0 then grp.getD u 0 else m) = (grp.take j).map (fun m => if m = grp.getD v 0 then grp.getD u 0 else m) ++ [if m = grp.getD v 0 then grp.getD u 0 else m] := by
            rw [List.take_add_one, hm, List.map_append]; rfl
          have hlen : (((grp.take j).map fun m => if m = grp.getD v 0 then grp.getD u 0 else m).map nV).length < sizeLine := size_lt (by rw [List.length_map, List.length_map, List.length_take]; omega)
          refine ⟨_, rfl, _, rfl, rfl, _, rfl, ifD (fun e => ?_) (fun ne => ?_)⟩
          · have e : m = grp.getD v 0 := by injection e with e; omega
            refine ⟨_, rfl, _, hN, hlen, same_mut sm2 nN, ?_⟩
            rw [upd_same, ej, if_pos e, List.map_append]; rfl
          · have ne : ¬ m = grp.getD v 0 := fun z => ne (by rw [z])
            refine ⟨_, rfl, _, hN, hlen, same_mut sm2 nN, ?_⟩
            rw [upd_same, ej, if_neg ne, List.map_append]; rfl
        · rintro H2 ⟨sm2, hN⟩
          rw [List.length_map, List.take_length] at hN
          exact ⟨N, _, _, _, _, mergeG grp u v, rfl, (sm.trans sT).trans sm2, hN, by unfold mergeG; rw [List.length_map]; exact lg, by rw [et]; exact piece_merge pk (by omega) (by omega)⟩
      · exact ⟨G0, _, _, _, _, grp, rfl, sm, hG, lg, by rw [et]; exact piece_skip pk⟩
    · rintro σ H' ⟨G0, y, z, a, b, grp, rfl, sm, hG, lg, pk⟩
      rw [hus.len, List.take_length] at pk
      exact ⟨_, rfl, q H' G0 grp sm hG lg pk⟩
/-! ### how many sheets go through the places over a place -/
def spSheets : Sp := fun vs H Q _ => ∃ (a : Addr) (d : Nat), vs = [.ref a, nV d] ∧ PoolAt H a ∧ 1 ≤ d ∧ d ≤ 100 ∧ ∀ (H' : Hp) (L : Addr) (ws : List Nat), Same H H' → H L = none → H' L = some (.lst (ws.map nV)) → ws.sum = d → ws.length ≤ d + 1 → Q (.ref L) H'
theorem ok_sheets (D : DefAt K mg "_law_sheets" "_law_sheets" s_law_sheets) (B : Bt mg) (h_law_take : Has P w K mg base CX0 2 "_law_take" p_law_take spTake) : Has P w K mg base CX0 3 "_law_sheets" p_law_sheets spSheets := by
  refine has_of D sc_law_sheets (fun _ _ _ _ _ _ us hl => match us, hl with | [_, _], _ => rfl) (fun vs H Q E h => ?_) (fun f cdv A outer s H vs Q E hr h => ?_)
  · obtain ⟨a, d, rfl, _⟩ := h
    rfl
  · obtain ⟨a, d, rfl, hp, hd1, hd2, q⟩ := h
    refine ⟨_, (pss_cons (ps_par (i := 2) (j := 3) rfl sc_law_sheets.nd rfl rfl (by decide) rfl rfl (pa_cons (pe_lst pa_nil) (pa_cons (pv 1) pa_nil)) rfl)
  (pss_cons (ps_for PassesOwn.never rfl (pi_range1 rfl B.range (pa_cons (pv 1) pa_nil)) (pg_name (i := 4) sc_law_sheets.nd rfl (.inl rfl)) (pss_one (ps_if (pt_cmpR op_gt (pv 3) pe_int (nomark _)) (pss_cons (ps_expr (pe_bm PySem.F.plainAttrs_list PySem.F.slot_list_append PySem.F.type_list_append mt_append (pv 2) (pa_cons (pe_op op_add pe_int (pe_h h_law_take hr pass0 (pa_cons (pv 0) (pa_cons (pv 3) pa_nil)))) pa_nil)))
  (pss_one (ps_set (i := 3) sc_law_sheets.nd rfl (.inl rfl) (pe_op op_sub (pv 3) (pe_ix (ixL (K := K) rfl) (pv 2) (pe_un un_neg pe_int) (fun _ _ => rfl)))))) pss_nil)))
  (pss_one (ps_ret (pe_op op_cat (pv 2) (pe_op op_rep (pe_lst (pa_cons pe_int pa_nil)) (pe_callTy call_int1 rfl B.int (by decide +kernel) (pa_cons (pe_cmpR op_eq (pe_h h_law_take hr pass0 (pa_cons (pv 0) (pa_cons pe_int pa_nil))) pe_int (nomark _)) pa_nil)))))))), ?_⟩
    refine ⟨by show 0 ≤ sizeLine; decide, fun F0 nF0 => ⟨_, rfl, _, _, rfl, ?_⟩⟩
    have hF0 : (upd H F0 (.lst [])) F0 = some (.lst []) := upd_same
    have s0 : Same H (upd H F0 (.lst [])) := same_upd nF0
    refine ⟨_, rfl, _, rfl, by omega, by omega, for_range (lo := 0) (n := d) (fun i σ H' => ∃ (y : Option V) (left : Nat) (ws : List Nat), σ = [some (.ref a), some (nV d), some (.ref F0), some (nV left), y] ∧ Same H H' ∧ H' F0 = some (.lst (ws.map nV)) ∧ ws.sum + left = d ∧ left + i ≤ d ∧ ws.length ≤ i) ?_ ?_ ?_⟩
    · exact ⟨_, d, [], rfl, s0, hF0, by show 0 + d = d; omega, by omega, Nat.le_refl _⟩
    · rintro i σ H' hi ⟨y, left, ws, rfl, sm, hF, hsum, hle, hlen⟩
      refine ⟨_, rfl, _, _, rfl, rfl, _, rfl, ifD (fun hpos => ?_) (fun hz => ?_)⟩
      · refine ⟨_, rfl, .inl ⟨rfl, _, SqL.of hF⟩, _, rfl, _, rfl, a, _, rfl, hp.same sm, by omega, by omega, fun r r0 r1 => ?_⟩
        obtain ⟨k, rfl⟩ : ∃ k : Nat, r = k := ⟨r.toNat, by omega⟩
        refine ⟨_, _, rfl, rfl, _, _, _, rfl, rfl, hF, size_lt (by rw [List.length_map]; omega), ?_⟩
        have ev : V.int (1 + (k : Int)) = nV (k + 1) := congrArg V.int (by omega)
        have hF1 : (upd H' F0 (.lst (ws.map nV ++ [.int (1 + (k : Int))]))) F0 = some (.lst ((ws ++ [k + 1]).map nV)) := by rw [upd_same, List.map_append, ev]; rfl
        have hF2 : (upd H' F0 (.lst (ws.map nV ++ [.int (1 + (k : Int))]))) F0 = some (.lst (ws.map nV ++ [nV (k + 1)])) := by rw [upd_same, ev]
        refine ⟨_, rfl, _, rfl, _, rfl, _, _, -1, nV (k + 1), rfl, rfl, SqL.of hF2, atI_last _ _, _, _, rfl, rfl, ?_⟩
        have hsa : (ws ++ [k + 1]).sum = ws.sum + (k + 1) := by simp
        have ei : V.int ((left : Int) - ((k + 1 : Nat) : Int)) = nV (left - (k + 1)) := congrArg V.int (by omega)
        refine ⟨some (.int (0 + (i : Nat))), left - (k + 1), ws ++ [k + 1], ?_, same_mut sm nF0, hF1, by rw [hsa]; omega, by omega, by rw [List.length_append]; show ws.length + 1 ≤ i + 1; omega⟩
        rw [← ei]; rfl
      · exact ⟨_, left, ws, rfl, sm, hF, hsum, by omega, by omega⟩
    · rintro σ H' ⟨y, left, ws, rfl, sm, hF, hsum, hle, hlen⟩
      refine ⟨_, rfl, by show 1 ≤ sizeLine; decide, fun z nz => ?_⟩
      have sz : Same H' (upd H' z (.lst [.int 0])) := same_upd nz
      have hz : (upd H' z (.lst [.int 0])) z = some (.lst [.int 0]) := upd_same
      have hFz := sz _ _ hF
      have smz := sm.trans sz
      generalize upd H' z (.lst [.int 0]) = H1 at sz hz hFz smz
      refine ⟨_, rfl, a, 4, rfl, hp.same smz, by decide, by decide, fun r r0 r1 => ?_⟩
      refine ⟨rfl, .inr ⟨_, rfl, ?_⟩⟩
      obtain ⟨c, hc, hcv⟩ : ∃ c : Nat, c ≤ 1 ∧ (if decide (V.int r = V.int 0) = true then (1 : Int) else 0) = (c : Nat) := by
        by_cases e : V.int r = V.int 0
        · exact ⟨1, Nat.le_refl _, by rw [decide_eq_true e]; rfl⟩
        · exact ⟨0, by omega, by rw [decide_eq_false e]; rfl⟩
      rw [hcv]
      refine ⟨z, _, [.int 0], rfl, rfl, hz, by omega, by omega, size_le (by show 1 * _ ≤ _; omega), fun aR naR => ?_⟩
      have er : (List.replicate ((c : Nat) : Int).toNat [V.int 0]).flatten = (List.replicate c 0).map nV := by
        rw [Int.toNat_natCast]
        match c, hc with
        | 0, _ => rfl
        | 1, _ => rfl
      rw [er]
      have sR : Same H1 (upd H1 aR (.lst ((List.replicate c 0).map nV))) := same_upd naR
      refine ⟨F0, aR, _, _, rfl, rfl, sR _ _ hFz, upd_same, size_le (by rw [List.length_map, List.length_map, List.length_replicate]; omega), fun L nL => ?_⟩
      have sL : Same (upd H1 aR (.lst ((List.replicate c 0).map nV))) (upd (upd H1 aR (.lst ((List.replicate c 0).map nV))) L (.lst (ws.map nV ++ (List.replicate c 0).map nV))) := same_upd nL
      refine q _ L (ws ++ List.replicate c 0) ((smz.trans sR).trans sL) ((smz.trans sR).free nL) (by rw [upd_same, List.map_append]) ?_ (by rw [List.length_append, List.length_replicate]; omega)
      simp; omega
/-! ### the graph below -/
def spGoal : Sp := fun vs H Q _ => ∃ (a : Addr) (most genus : Int), vs = [.ref a, .int most, .int genus] ∧ PoolAt H a ∧ 1 ≤ most ∧ most ≤ 6 ∧ 0 ≤ genus ∧ genus ≤ 3 ∧
  ∀ (H' : Hp) (t l : Addr) (n : Nat) (es : List Pr), Same H H' → H' t = some (.tup [nV n, .ref l]) → PLst H' l es → Good n es → Lex es → 2 ≤ n → n ≤ 6 ∧ (n : Int) ≤ max most 2 → es.length ≤ 8 → 1 ≤ es.length → Q (.ref t) H'
theorem rep_pair (v : V) : ∀ k : Nat, (List.replicate k [v]).flatten = List.replicate k v
  | 0 => rfl
  | k + 1 => by rw [List.replicate_succ, List.flatten_cons, rep_pair v k, List.replicate_succ]; rfl
theorem prs_rep {H : Hp} {t : Addr} {a b : Nat} (h : H t = some (.tup [nV a, nV b])) : ∀ k : Nat, Prs H (List.replicate k (.ref t)) (List.replicate k (a, b))
  | 0 => True.intro
  | k + 1 => by rw [List.replicate_succ, List.replicate_succ]; exact ⟨⟨t, rfl, h⟩, prs_rep h k⟩
theorem spans_ne {n : Nat} {es : List Pr} (h : Spans n es) (h2 : 2 ≤ n) : es ≠ [] := fun z => by
  subst z
  have := h (fun i => decide (i = 0)) (fun e h => nomatch h) 1 (by omega)
  cases this
theorem ok_goal (D : DefAt K mg "_law_goal" "_law_goal" s_law_goal) (B : Bt mg) (h_law_take : Has P w K mg base CX0 2 "_law_take" p_law_take spTake) (h_law_graph : Has P w K mg base CX0 4 "_law_graph" p_law_graph spGraph) : Has P w K mg base CX0 5 "_law_goal" p_law_goal spGoal := by
  refine has_of D sc_law_goal (fun _ _ _ _ _ _ us hl => match us, hl with | [_, _, _], _ => rfl) (fun vs H Q E h => ?_) (fun f cdv A outer s H vs Q E hr h => ?_)
  · obtain ⟨a, most, genus, rfl, _⟩ := h
    rfl
  · obtain ⟨a, most, genus, rfl, hp, m1, m2, g1, g2, q⟩ := h
    refine ⟨_, (pss_cons (ps_asg (pe_h h_law_graph hr pass0 (pa_cons (pv 0) (pa_cons (pv 1) (pa_cons (pv 2) pa_nil)))) (pgT (K := K) (n := 2) rfl rfl (pgs_cons (pg_name (i := 3) sc_law_goal.nd rfl (.inl rfl)) (pgs_cons (pg_name (i := 4) sc_law_goal.nd rfl (.inl rfl)) pgs_nil))))
  (pss_one (ps_ret (pe_ifExp (pt_cmpR op_gt (pv 3) pe_int (nomark _)) (pe_tup (pa_cons (pv 3) (pa_cons (pe_callB (sortPK (K := K) rfl) rfl B.sorted (by decide +kernel) (pa_cons (pv 4) pa_nil)) pa_nil))) (pe_tup (pa_cons pe_int (pa_cons (pe_op op_rep (pe_lst (pa_cons (pe_tup (pa_cons pe_int (pa_cons pe_int pa_nil))) pa_nil)) (pe_op op_add pe_int (pe_h h_law_take hr pass0 (pa_cons (pv 0) (pa_cons pe_int pa_nil))))) pa_nil))))))), ?_⟩
    refine ⟨_, rfl, _, rfl, _, rfl, a, most, genus, rfl, hp, m1, by omega, g1, by omega, fun H1 t l n es s1 ht _ ⟨us, hl, hus⟩ hn1 hn2 good hel => ?_⟩
    refine ⟨t, _, rfl, SqT.of ht, rfl, _, _, rfl, _, _, rfl, rfl, ?_⟩
    refine ⟨_, rfl, _, _, rfl, rfl, _, rfl, ifD (fun h1 => ?_) (fun h1 => ?_)⟩
    · refine ⟨_, rfl, _, rfl, l, us, prI H1, rfl, SqL.of hl, fun v hv => ?_, fun ys p hs hb np => ?_⟩
      · obtain ⟨t, a, b, e1, e2⟩ := hus.mem v hv
        subst e1
        exact ⟨t, rfl, by rw [prI_of e2]; exact e2⟩
      have hys : Prs H1 ys (ys.map (prN H1)) := prs_of fun v hv => by
        obtain ⟨t, a, b, e1, e2⟩ := hus.mem v (hb.perm.mem_iff.mp hv)
        exact ⟨t, a, b, e1, e2⟩
      have hperm : (ys.map (prN H1)).Perm es := by
        rw [hus.eq]; exact hb.perm.map _
      have hlex : Lex (ys.map (prN H1)) := by
        refine List.pairwise_map.mpr (List.Pairwise.imp_of_mem (fun {a b} ha hb' h => ?_) hs)
        have h := SrtO.lexB_no.mp h
        obtain ⟨t, a1, a2, rfl, e2⟩ := hus.mem a (hb.perm.mem_iff.mp ha)
        obtain ⟨t', b1, b2, rfl, e2'⟩ := hus.mem b (hb.perm.mem_iff.mp hb')
        rw [prI_of e2, prI_of e2'] at h
        rw [prN_of e2, prN_of e2']
        have h : ¬ ((b1 : Int) < (a1 : Int) ∨ (b1 : Int) = a1 ∧ (b2 : Int) < a2) := h
        show a1 < b1 ∨ a1 = b1 ∧ a2 ≤ b2
        omega
      have good' := good.perm hperm
      have s2 : Same H1 (upd H1 p (.lst ys)) := same_upd np
      refine ⟨by show 2 ≤ sizeLine; decide, fun T nT => ?_⟩
      have s3 : Same (upd H1 p (.lst ys)) (upd (upd H1 p (.lst ys)) T (.tup [nV n, .ref p])) := same_upd nT
      refine q _ T p n (ys.map (prN H1)) ((s1.trans s2).trans s3) upd_same ⟨ys, s3 _ _ upd_same, hys.same (s2.trans s3)⟩ good' hlex (by omega) ⟨by omega, by omega⟩ (by rw [hperm.length_eq]; omega) ?_
      exact List.length_pos_iff.mpr (spans_ne good'.2 (by omega))
    · refine ⟨by show 2 ≤ sizeLine; decide, fun T0 nT0 => ?_⟩
      have sT0 : Same H1 (upd H1 T0 (.tup [.int 0, .int 1])) := same_upd nT0
      have hT0 : (upd H1 T0 (.tup [.int 0, .int 1])) T0 = some (.tup [nV 0, nV 1]) := upd_same
      refine ⟨by show 1 ≤ sizeLine; decide, fun z nz => ?_⟩
      have sz : Same (upd H1 T0 (.tup [.int 0, .int 1])) (upd (upd H1 T0 (.tup [.int 0, .int 1])) z (.lst [.ref T0])) := same_upd nz
      have hz : (upd (upd H1 T0 (.tup [.int 0, .int 1])) z (.lst [.ref T0])) z = some (.lst [.ref T0]) := upd_same
      have hT1 := sz _ _ hT0
      have s2 := (s1.trans sT0).trans sz
      generalize upd (upd H1 T0 (.tup [.int 0, .int 1])) z (.lst [.ref T0]) = H2 at sz hz hT1 s2
      refine ⟨_, rfl, a, 3, rfl, hp.same s2, by decide, by decide, fun r r0 r1 => ?_⟩
      refine ⟨_, _, rfl, rfl, ?_⟩
      obtain ⟨k, hk⟩ : ∃ k : Nat, 1 + r = ((k + 1 : Nat) : Int) := ⟨r.toNat, by omega⟩
      show rRep (.ref z) (.int (1 + r)) H2 _
      rw [hk]
      refine ⟨z, _, [.ref T0], rfl, rfl, hz, by omega, by omega, size_le (by show 1 * _ ≤ _; omega), fun aR naR => ?_⟩
      rw [rep_pair, Int.toNat_natCast]
      have sR : Same H2 (upd H2 aR (.lst (List.replicate (k + 1) (.ref T0)))) := same_upd naR
      refine ⟨by show 2 ≤ sizeLine; decide, fun T nT => ?_⟩
      have s3 : Same (upd H2 aR (.lst (List.replicate (k + 1) (.ref T0)))) (upd (upd H2 aR (.lst (List.replicate (k + 1) (.ref T0)))) T (.tup [.int 2, .ref aR])) := same_upd nT
      refine q _ T aR 2 (List.replicate (k + 1) (0, 1)) ((s2.trans sR).trans s3) upd_same ⟨_, s3 _ _ upd_same, prs_rep (s3 _ _ (sR _ _ hT1)) _⟩ ⟨fun e he => ?_, fun f hf i hi => ?_⟩ ?_ (by omega) ⟨by omega, by omega⟩ (by rw [List.length_replicate]; omega) (by rw [List.length_replicate]; omega)
      · rw [(List.mem_replicate.mp he).2]
        exact ⟨by decide, by decide⟩
      · have h01 := hf (0, 1) (by rw [List.replicate_succ]; exact List.mem_cons_self ..)
        have h01 : f 0 = f 1 := h01
        rcases (show i = 0 ∨ i = 1 by omega) with rfl | rfl
        · rfl
        · exact h01.symm
      · unfold Lex
        rw [List.pairwise_replicate]
        exact .inr (.inr ⟨rfl, Nat.le_refl _⟩)
end
end G3

set_option Elab.async false
set_option linter.all false
set_option maxRecDepth 100000
set_option maxHeartbeats 1000000
namespace G3
open PySem PySem.Spec PyProof.Rows L2
/-! ## plain: the law's map is a map -/
abbrev R3 : Type := Nat × Nat × Option Nat
def gd (l : List Nat) (i : Nat) : Nat := l.getD i 0
theorem gd_get {l : List Nat} {i : Nat} (h : i < l.length) : l[i]? = some (gd l i) := by
  unfold gd
  rw [List.getD_eq_getElem?_getD, List.getElem?_eq_getElem h]; rfl
theorem gd_mem {l : List Nat} {i : Nat} (h : i < l.length) : gd l i ∈ l := List.mem_of_getElem? (gd_get h)
theorem map_gd : ∀ l : List Nat, (List.range l.length).map (gd l) = l := fun l => by
  refine List.ext_getElem (by rw [List.length_map, List.length_range]) fun i h1 h2 => ?_
  rw [List.getElem_map, List.getElem_range]
  have := gd_get h2
  rw [List.getElem?_eq_getElem h2] at this
  exact (Option.some.inj this).symm
def sl (S : List (List Nat)) (q : Nat) : List Nat := S.getD q []
def gE (goal : List Pr) (k : Nat) : Pr := goal.getD k (0, 0)
def RowOk (N : Nat) (P : List Nat) (goal : List Pr) (r : R3) : Prop := r.1 < N ∧ r.2.1 < N ∧ r.1 ≠ r.2.1 ∧ ((r.2.2 = none ∧ gd P r.1 = gd P r.2.1) ∨ ∃ k, k < goal.length ∧ r.2.2 = some k ∧ gd P r.1 = (gE goal k).1 ∧ gd P r.2.1 = (gE goal k).2)
def cR (R : List R3) (p k : Nat) : Nat := R.countP fun r => (decide (r.1 = p) || decide (r.2.1 = p)) && decide (r.2.2 = some k)
def dR (R : List R3) (k : Nat) : Nat := R.countP fun r => decide (r.2.2 = some k)
def SlotOk (N : Nat) (P : List Nat) (S : List (List Nat)) (d n : Nat) : Prop := ∀ q, q < n → (sl S q).length = d ∧ ∀ x ∈ sl S q, x < N ∧ gd P x = q
def formu (P : List Nat) (S : List (List Nat)) (goal : List Pr) (p k : Nat) : Nat := if gd P p = (gE goal k).1 ∨ gd P p = (gE goal k).2 then (sl S (gd P p)).count p else 0
/-- behind i edges below -/
structure RowsI (N : Nat) (P : List Nat) (S : List (List Nat)) (goal : List Pr) (d i : Nat) (R : List R3) : Prop where
  ok : ∀ r ∈ R, RowOk N P goal r
  c : ∀ k p, p < N → cR R p k = if k < i then formu P S goal p k else 0
  dd : ∀ k, dR R k = if k < i then d else 0
def rowK (S : List (List Nat)) (o : List Nat) (d u v k : Nat) : List R3 := (List.range d).map fun a => (gd (sl S u) a, gd (sl S v) (gd o a), some k)
theorem countP_idx {l : List Nat} {d p : Nat} (h : l.length = d) : (List.range d).countP (fun a => decide (gd l a = p)) = l.count p := by
  subst h
  have : l.count p = ((List.range l.length).map (gd l)).count p := by rw [map_gd]
  rw [this, List.count, List.countP_map]
  refine List.countP_congr fun a _ => ?_
  simp
theorem countP_idx_perm {l o : List Nat} {d p : Nat} (h : l.length = d) (ho : o.Perm (List.range d)) : (List.range d).countP (fun a => decide (gd l (gd o a) = p)) = l.count p := by
  have lo : o.length = d := by rw [ho.length_eq, List.length_range]
  have e : (List.range d).countP (fun a => decide (gd l (gd o a) = p)) = ((List.range o.length).map (gd o)).countP (fun x => decide (gd l x = p)) := by
    rw [List.countP_map, lo]; rfl
  rw [e, map_gd, ho.countP_eq, countP_idx h]
theorem rowsI_step {N d i n : Nat} {P : List Nat} {S : List (List Nat)} {goal : List Pr} {R : List R3} {o : List Nat} (h : RowsI N P S goal d i R) (hs : SlotOk N P S d n) (hi : i < goal.length) (hu : (gE goal i).1 < n) (hv : (gE goal i).2 < n) (ne : (gE goal i).1 ≠ (gE goal i).2)
    (ho : o.Perm (List.range d)) : RowsI N P S goal d (i + 1) (R ++ rowK S o d (gE goal i).1 (gE goal i).2 i) := by
  obtain ⟨u1, u2⟩ := hs _ hu
  obtain ⟨v1, v2⟩ := hs _ hv
  have lo : o.length = d := by rw [ho.length_eq, List.length_range]
  have olt : ∀ a, a < d → gd o a < d := fun a ha => List.mem_range.mp (ho.mem_iff.mp (gd_mem (by omega)))
  have inu : ∀ a, a < d → gd (sl S (gE goal i).1) a < N ∧ gd P (gd (sl S (gE goal i).1) a) = (gE goal i).1 := fun a ha => u2 _ (gd_mem (by omega))
  have inv : ∀ a, a < d → gd (sl S (gE goal i).2) (gd o a) < N ∧ gd P (gd (sl S (gE goal i).2) (gd o a)) = (gE goal i).2 := fun a ha => v2 _ (gd_mem (by have := olt a ha; omega))
  refine ⟨fun r hr => ?_, fun k p hp => ?_, fun k => ?_⟩
  · rcases List.mem_append.mp hr with hr | hr
    · exact h.ok r hr
    · obtain ⟨a, ha, rfl⟩ := List.mem_map.mp hr
      have ha := List.mem_range.mp ha
      obtain ⟨a1, a2⟩ := inu a ha
      obtain ⟨b1, b2⟩ := inv a ha
      exact ⟨a1, b1, fun e => ne (by rw [← a2, ← b2]; exact congrArg (gd P) e), .inr ⟨i, hi, rfl, a2, b2⟩⟩
  · have e1 : cR (R ++ rowK S o d (gE goal i).1 (gE goal i).2 i) p k = cR R p k + cR (rowK S o d (gE goal i).1 (gE goal i).2 i) p k := List.countP_append
    rw [e1, h.c k p hp]
    unfold cR rowK
    rw [List.countP_map]
    by_cases ck : k = i
    · subst ck
      rw [if_neg (Nat.lt_irrefl k), if_pos (Nat.lt_succ_self k), Nat.zero_add]
      unfold formu
      by_cases c1 : gd P p = (gE goal k).1
      · rw [if_pos (.inl c1), c1, ← countP_idx u1]
        refine List.countP_congr fun a ha => ?_
        have ha := List.mem_range.mp ha
        have nb : ¬ gd (sl S (gE goal k).2) (gd o a) = p := fun z => ne (by rw [← c1, ← z, (inv a ha).2])
        simp [nb]
      · by_cases c2 : gd P p = (gE goal k).2
        · rw [if_pos (.inr c2), c2, ← countP_idx_perm v1 ho]
          refine List.countP_congr fun a ha => ?_
          have ha := List.mem_range.mp ha
          have nb : ¬ gd (sl S (gE goal k).1) a = p := fun z => c1 (by rw [← z, (inu a ha).2])
          simp [nb]
        · rw [if_neg (fun z => z.elim c1 c2)]
          rw [List.countP_eq_zero]
          intro a ha
          have ha := List.mem_range.mp ha
          have n1 : ¬ gd (sl S (gE goal k).1) a = p := fun z => c1 (by rw [← z, (inu a ha).2])
          have n2 : ¬ gd (sl S (gE goal k).2) (gd o a) = p := fun z => c2 (by rw [← z, (inv a ha).2])
          simp [n1, n2]
    · have z : (List.range d).countP ((fun r : R3 => (decide (r.1 = p) || decide (r.2.1 = p)) && decide (r.2.2 = some k)) ∘ fun a => (gd (sl S (gE goal i).1) a, gd (sl S (gE goal i).2) (gd o a), some i)) = 0 := by
        rw [List.countP_eq_zero]
        intro a _
        have : ¬ i = k := fun z => ck z.symm
        simp [this]
      rw [z, Nat.add_zero]
      by_cases cl : k < i
      · rw [if_pos cl, if_pos (by omega)]
      · rw [if_neg cl, if_neg (by omega)]
  · have e1 : dR (R ++ rowK S o d (gE goal i).1 (gE goal i).2 i) k = dR R k + dR (rowK S o d (gE goal i).1 (gE goal i).2 i) k := List.countP_append
    rw [e1, h.dd k]
    unfold dR rowK
    rw [List.countP_map]
    by_cases ck : k = i
    · subst ck
      rw [if_neg (Nat.lt_irrefl k), if_pos (Nat.lt_succ_self k), Nat.zero_add]
      have : (List.range d).countP ((fun r : R3 => decide (r.2.2 = some k)) ∘ fun a => (gd (sl S (gE goal k).1) a, gd (sl S (gE goal k).2) (gd o a), some k)) = (List.range d).length := by
        rw [List.countP_eq_length]
        intro a _
        simp
      rw [this, List.length_range]
    · have z : (List.range d).countP ((fun r : R3 => decide (r.2.2 = some k)) ∘ fun a => (gd (sl S (gE goal i).1) a, gd (sl S (gE goal i).2) (gd o a), some i)) = 0 := by
        rw [List.countP_eq_zero]
        intro a _
        have : ¬ i = k := fun z => ck z.symm
        simp [this]
      rw [z, Nat.add_zero]
      by_cases cl : k < i
      · rw [if_pos cl, if_pos (by omega)]
      · rw [if_neg cl, if_neg (by omega)]
theorem rowsI_nil {N d : Nat} {P : List Nat} {S : List (List Nat)} {goal : List Pr} : RowsI N P S goal d 0 [] := ⟨fun r h => (nomatch h), fun k p hp => by rw [if_neg (Nat.not_lt_zero k)]; rfl, fun k => by rw [if_neg (Nat.not_lt_zero k)]; rfl⟩
theorem rowsI_none {N d i : Nat} {P : List Nat} {S : List (List Nat)} {goal : List Pr} {R : List R3} {a b : Nat} (h : RowsI N P S goal d i R) (ha : a < N) (hb : b < N) (ne : a ≠ b) (e : gd P a = gd P b) : RowsI N P S goal d i (R ++ [(a, b, none)]) := by
  refine ⟨fun r hr => ?_, fun k p hp => ?_, fun k => ?_⟩
  · rcases List.mem_append.mp hr with hr | hr
    · exact h.ok r hr
    · rw [List.mem_singleton.mp hr]
      exact ⟨ha, hb, ne, .inl ⟨rfl, e⟩⟩
  · rw [← h.c k p hp]
    unfold cR
    rw [List.countP_append]
    simp
  · rw [← h.dd k]
    unfold dR
    rw [List.countP_append]
    simp
def edR (R : List R3) : List Pr := R.map fun r => (r.1, r.2.1)
/-- places over one place are together -/
def Tog (R : List R3) (a b : Nat) : Prop := ∀ f : Nat → Bool, (∀ e ∈ edR R, f e.1 = f e.2) → f a = f b
theorem Tog.app {R : List R3} {r : R3} {a b : Nat} (h : Tog R a b) : Tog (R ++ [r]) a b := fun f hf => h f fun e he => hf e (by unfold edR at he ⊢; rw [List.map_append]; exact List.mem_append_left _ he)
theorem tog_new {R : List R3} {a b : Nat} {o : Option Nat} : Tog (R ++ [(b, a, o)]) a b := fun f hf => (hf (b, a) (by unfold edR; rw [List.map_append]; exact List.mem_append_right _ (List.mem_singleton.mpr rfl))).symm
theorem rows_span {N d n : Nat} {P : List Nat} {S : List (List Nat)} {goal : List Pr} {R : List R3} (h : RowsI N P S goal d goal.length R) (hs : SlotOk N P S d n) (hd : 1 ≤ d) (hn : 1 ≤ n) (good : Good n goal) (hP : ∀ a, a < N → gd P a < n) (tog : ∀ a b, a < N → b < N → gd P a = gd P b → Tog R a b) : ∀ f : Nat → Bool, (∀ e ∈ edR R, f e.1 = f e.2) → ∀ a b, a < N → b < N → f a = f b := fun f hf => by
  obtain ⟨F, hF⟩ : ∃ F : Nat → Bool, F = fun q => (List.range N).any fun a => decide (gd P a = q) && f a := ⟨_, rfl⟩
  have Fa : ∀ a, a < N → F (gd P a) = f a := fun a ha => by
    rw [hF]
    cases hfa : f a with
    | true => exact List.any_eq_true.mpr ⟨a, List.mem_range.mpr ha, by rw [decide_eq_true rfl, hfa]; rfl⟩
    | false =>
      rw [List.any_eq_false]
      intro b hb z
      rw [Bool.and_eq_true, decide_eq_true_iff] at z
      have := tog b a (List.mem_range.mp hb) ha z.1 f hf
      rw [z.2, hfa] at this
      cases this
  have over : ∀ q, q < n → ∃ a, a < N ∧ gd P a = q := fun q hq => by
    obtain ⟨h1, h2⟩ := hs q hq
    have hp : 0 < (sl S q).length := by omega
    exact ⟨_, h2 _ (gd_mem hp)⟩
  have Fe : ∀ e ∈ goal, F e.1 = F e.2 := fun e he => by
    obtain ⟨k, hk, rfl⟩ := List.getElem_of_mem he
    have ek : gE goal k = goal[k] := by unfold gE; rw [List.getD_eq_getElem?_getD, List.getElem?_eq_getElem hk]; rfl
    have hdk := h.dd k
    rw [if_pos hk] at hdk
    have : 0 < dR R k := by omega
    obtain ⟨r, hr, hk2⟩ := List.countP_pos_iff.mp this
    have hk2 := of_decide_eq_true hk2
    obtain ⟨r1, r2, _, r3⟩ := h.ok r hr
    rcases r3 with ⟨z, _⟩ | ⟨k', _, e1, e2, e3⟩
    · rw [hk2] at z; cases z
    · rw [hk2] at e1
      have : k = k' := Option.some.inj e1
      subst this
      rw [ek] at e2 e3
      rw [← e2, ← e3, Fa _ r1, Fa _ r2]
      exact hf (r.1, r.2.1) (List.mem_map.mpr ⟨r, hr, rfl⟩)
  have F0 := good.2 F Fe
  intro a b ha hb
  rw [← Fa a ha, ← Fa b hb, F0 _ (hP a ha), F0 _ (hP b hb)]
/-! ### named anew -/
def relR (o : List Nat) (r : R3) : Pr × Option Nat := ((min (gd o r.1) (gd o r.2.1), max (gd o r.1) (gd o r.2.1)), r.2.2)
structure MapOk (n : Nat) (goal : List Pr) (d N : Nat) (es : List Pr) (nm : List Nat) (im : List (Option Nat)) : Prop where
  good : Good N es
  lex : Lex es
  lnm : nm.length = N
  bnm : ∀ x ∈ nm, x < n
  lim : im.length = es.length
  side : ∀ (i : Nat) (e : Pr), es[i]? = some e → (gd nm e.1 = gd nm e.2 ∧ im[i]? = some none) ∨ (∃ k, k < goal.length ∧ im[i]? = some (some k) ∧ gd nm e.1 ≠ gd nm e.2 ∧ sidesOf nm e = gE goal k)
  deg : ∀ k, k < goal.length → im.countP (fun o => decide (o = some k)) = d
  sh : ∃ m : Nat → Nat, (∀ p, p < N → ∀ k, k < goal.length → ((gE goal k).1 = gd nm p ∨ (gE goal k).2 = gd nm p) → cntE es im p k = m p) ∧ ∀ q, q < n → (((List.range N).filter fun p => decide (gd nm p = q)).map m).sum = d
theorem zip_parts {α β : Type} : ∀ T : List (α × β), (T.map (·.1)).zip (T.map (·.2)) = T
  | [] => rfl
  | t :: T => by
    show (t.1, t.2) :: (T.map (·.1)).zip (T.map (·.2)) = t :: T
    rw [zip_parts T]
theorem zero_sum {f : Nat → Nat} : ∀ {F : List Nat}, (∀ p ∈ F, f p = 0) → (F.map f).sum = 0
  | [], _ => rfl
  | a :: F, h => by rw [List.map_cons, List.sum_cons, h a (List.mem_cons_self ..), zero_sum fun p hp => h p (List.mem_cons_of_mem _ hp)]
theorem sum_ind {F : List Nat} (hn : F.Nodup) (x : Nat) (hx : x ∈ F) : (F.map fun p => if x = p then 1 else 0).sum = 1 := by
  induction F with
  | nil => cases hx
  | cons a F ih =>
    obtain ⟨h1, h2⟩ := List.nodup_cons.mp hn
    rw [List.map_cons, List.sum_cons]
    by_cases c : x = a
    · subst c
      rw [if_pos rfl]
      rw [zero_sum (f := fun p => if x = p then 1 else 0) fun p hp => if_neg fun (z : x = p) => h1 (by rw [z]; exact hp)]
    · rw [if_neg c, ih h2 ((List.mem_cons.mp hx).resolve_left c)]
theorem sum_count {F : List Nat} (hn : F.Nodup) (g : Nat → Nat) : ∀ L : List Nat, (∀ x ∈ L, g x ∈ F) → (F.map fun p => L.countP fun x => decide (g x = p)).sum = L.length
  | [], _ => by
    exact zero_sum fun _ _ => rfl
  | x :: L, h => by
    have ih := sum_count hn g L fun y hy => h y (List.mem_cons_of_mem _ hy)
    have e : (F.map fun p => (x :: L).countP fun x => decide (g x = p)) = F.map fun p => (L.countP fun x => decide (g x = p)) + if g x = p then 1 else 0 := List.map_congr_left fun p _ => by
      rw [List.countP_cons]
      congr 1
      by_cases c : g x = p
      · rw [if_pos c, if_pos (decide_eq_true c)]
      · rw [if_neg c, if_neg (by rw [decide_eq_false c]; exact Bool.false_ne_true)]
    rw [e]
    have s2 : ∀ (a b : Nat → Nat) (F : List Nat), (F.map fun p => a p + b p).sum = (F.map a).sum + (F.map b).sum := fun a b F => by
      induction F with
      | nil => rfl
      | cons c F ih => rw [List.map_cons, List.map_cons, List.map_cons, List.sum_cons, List.sum_cons, List.sum_cons, ih]; omega
    rw [s2, ih, sum_ind hn _ (h x (List.mem_cons_self ..)), List.length_cons]
theorem map_ok {n N d : Nat} {goal : List Pr} {P nm o : List Nat} {S : List (List Nat)} {R : List R3} {T : List (Pr × Option Nat)} (hr : RowsI N P S goal d goal.length R) (hs : SlotOk N P S d n) (hd : 1 ≤ d) (hn : 1 ≤ n) (good : Good n goal) (hlex : ∀ e ∈ goal, e.1 < e.2) (hP : ∀ a, a < N → gd P a < n)
    (tog : ∀ a b, a < N → b < N → gd P a = gd P b → Tog R a b) (ho : o.Perm (List.range N)) (hT : T.Perm (R.map (relR o))) (lex : Lex (T.map (·.1))) (lnm : nm.length = N) (hnm : ∀ a, a < N → gd nm (gd o a) = gd P a) : MapOk n goal d N (T.map (·.1)) nm (T.map (·.2)) := by
  have lo : o.length = N := by rw [ho.length_eq, List.length_range]
  have olt : ∀ a, a < N → gd o a < N := fun a ha => List.mem_range.mp (ho.mem_iff.mp (gd_mem (by omega)))
  have ond : o.Nodup := ho.nodup_iff.mpr List.nodup_range
  have oinj : ∀ a b, a < N → b < N → gd o a = gd o b → a = b := fun a b ha hb e => by
    have h1 := gd_get (l := o) (i := a) (by omega)
    have h2 := gd_get (l := o) (i := b) (by omega)
    rw [e, ← h2] at h1
    exact (List.getElem?_inj (by omega) ond).mp h1
  have osur : ∀ p, p < N → ∃ a, a < N ∧ gd o a = p := fun p hp => by
    have : p ∈ o := ho.mem_iff.mpr (List.mem_range.mpr hp)
    obtain ⟨i, hi, e⟩ := List.getElem_of_mem this
    refine ⟨i, by omega, ?_⟩
    have := gd_get hi
    rw [List.getElem?_eq_getElem hi, e] at this
    exact (Option.some.inj this).symm
  have memT : ∀ t ∈ T, ∃ r ∈ R, t = relR o r := fun t ht => by
    obtain ⟨r, hr, e⟩ := List.mem_map.mp (hT.mem_iff.mp ht)
    exact ⟨r, hr, e.symm⟩
  have goodE : Good N (T.map (·.1)) := by
    refine ⟨fun e he => ?_, fun f hf i hi => ?_⟩
    · obtain ⟨t, ht, rfl⟩ := List.mem_map.mp he
      obtain ⟨r, hrr, rfl⟩ := memT t ht
      obtain ⟨r1, r2, r3, _⟩ := hr.ok r hrr
      have h1 := olt _ r1
      have h2 := olt _ r2
      have ne : gd o r.1 ≠ gd o r.2.1 := fun z => r3 (oinj _ _ r1 r2 z)
      show min (gd o r.1) (gd o r.2.1) < max (gd o r.1) (gd o r.2.1) ∧ max (gd o r.1) (gd o r.2.1) < N
      omega
    · have key := rows_span hr hs hd hn good hP tog (fun a => f (gd o a)) fun e he => by
        obtain ⟨r, hrr, rfl⟩ := List.mem_map.mp he
        have hm : relR o r ∈ T := hT.mem_iff.mpr (List.mem_map.mpr ⟨r, hrr, rfl⟩)
        have := hf (relR o r).1 (List.mem_map.mpr ⟨_, hm, rfl⟩)
        have this : f (min (gd o r.1) (gd o r.2.1)) = f (max (gd o r.1) (gd o r.2.1)) := this
        show f (gd o r.1) = f (gd o r.2.1)
        by_cases c : gd o r.1 ≤ gd o r.2.1
        · rwa [Nat.min_eq_left c, Nat.max_eq_right c] at this
        · rw [Nat.min_eq_right (by omega), Nat.max_eq_left (by omega)] at this
          exact this.symm
      obtain ⟨a, ha, rfl⟩ := osur i hi
      obtain ⟨b, hb, e0⟩ := osur 0 (by omega)
      have := key a b ha hb
      rw [e0] at this
      exact this
  refine ⟨goodE, lex, lnm, fun x hx => ?_, by rw [List.length_map, List.length_map], fun i e he => ?_, fun k hk => ?_, fun p => (sl S (gd nm p)).countP fun x => decide (gd o x = p), fun p hp k hk hor => ?_, fun q hq => ?_⟩
  · obtain ⟨i, hi, rfl⟩ := List.getElem_of_mem hx
    obtain ⟨a, ha, e⟩ := osur i (by omega)
    have h1 := hnm a ha
    rw [e] at h1
    have h2 := gd_get hi
    rw [List.getElem?_eq_getElem hi] at h2
    rw [Option.some.inj h2, h1]
    exact hP a ha
  · rw [List.getElem?_map] at he
    obtain ⟨t, ht, rfl⟩ := Option.map_eq_some_iff.mp he
    have eim : (T.map (·.2))[i]? = some t.2 := by rw [List.getElem?_map, ht]; rfl
    rw [eim]
    obtain ⟨r, hrr, rfl⟩ := memT t (List.mem_of_getElem? ht)
    obtain ⟨r1, r2, r3, r4⟩ := hr.ok r hrr
    have n1 := hnm _ r1
    have n2 := hnm _ r2
    have ends : (gd nm (relR o r).1.1 = gd P r.1 ∧ gd nm (relR o r).1.2 = gd P r.2.1) ∨ (gd nm (relR o r).1.1 = gd P r.2.1 ∧ gd nm (relR o r).1.2 = gd P r.1) := by
      show (gd nm (min (gd o r.1) (gd o r.2.1)) = _ ∧ gd nm (max (gd o r.1) (gd o r.2.1)) = _) ∨ (gd nm (min (gd o r.1) (gd o r.2.1)) = _ ∧ gd nm (max (gd o r.1) (gd o r.2.1)) = _)
      by_cases c : gd o r.1 ≤ gd o r.2.1
      · rw [Nat.min_eq_left c, Nat.max_eq_right c]
        exact .inl ⟨n1, n2⟩
      · rw [Nat.min_eq_right (by omega), Nat.max_eq_left (by omega)]
        exact .inr ⟨n2, n1⟩
    rcases r4 with ⟨e0, e1⟩ | ⟨k, hk, e0, e1, e2⟩
    · refine .inl ⟨?_, by show some r.2.2 = _; rw [e0]⟩
      rcases ends with ⟨a1, a2⟩ | ⟨a1, a2⟩
      · rw [a1, a2, e1]
      · rw [a1, a2, e1]
    · have hlt := hlex (gE goal k) (by
        unfold gE
        rw [List.getD_eq_getElem?_getD, List.getElem?_eq_getElem hk]
        exact List.getElem_mem hk)
      refine .inr ⟨k, hk, by show some r.2.2 = _; rw [e0], ?_, ?_⟩
      · rcases ends with ⟨a1, a2⟩ | ⟨a1, a2⟩
        · rw [a1, a2, e1, e2]; omega
        · rw [a1, a2, e1, e2]; omega
      · have es : sidesOf nm (relR o r).1 = (min (gd nm (relR o r).1.1) (gd nm (relR o r).1.2), max (gd nm (relR o r).1.1) (gd nm (relR o r).1.2)) := rfl
        rw [es]
        rcases ends with ⟨a1, a2⟩ | ⟨a1, a2⟩
        · rw [a1, a2, e1, e2]
          refine Prod.ext ?_ ?_
          · show min (gE goal k).1 (gE goal k).2 = (gE goal k).1; omega
          · show max (gE goal k).1 (gE goal k).2 = (gE goal k).2; omega
        · rw [a1, a2, e1, e2]
          refine Prod.ext ?_ ?_
          · show min (gE goal k).2 (gE goal k).1 = (gE goal k).1; omega
          · show max (gE goal k).2 (gE goal k).1 = (gE goal k).2; omega
  · have := hr.dd k
    rw [if_pos hk] at this
    rw [← this, List.countP_map, hT.countP_eq, List.countP_map]; rfl
  · obtain ⟨a, ha, rfl⟩ := osur p hp
    have e1 : cntE (T.map (·.1)) (T.map (·.2)) (gd o a) k = cR R a k := by
      unfold cntE cR
      rw [zip_parts, hT.countP_eq, List.countP_map]
      refine List.countP_congr fun r hrr => ?_
      obtain ⟨r1, r2, r3, _⟩ := hr.ok r hrr
      have i1 : gd o r.1 = gd o a ↔ r.1 = a := ⟨oinj _ _ r1 ha, fun z => by rw [z]⟩
      have i2 : gd o r.2.1 = gd o a ↔ r.2.1 = a := ⟨oinj _ _ r2 ha, fun z => by rw [z]⟩
      show (((decide (min (gd o r.1) (gd o r.2.1) = gd o a) || decide (max (gd o r.1) (gd o r.2.1) = gd o a)) && decide (r.2.2 = some k)) = true) ↔ _
      rw [Bool.and_eq_true, Bool.and_eq_true, Bool.or_eq_true, Bool.or_eq_true, decide_eq_true_iff, decide_eq_true_iff, decide_eq_true_iff, decide_eq_true_iff, decide_eq_true_iff, ← i1, ← i2]
      constructor
      · rintro ⟨z, y⟩
        exact ⟨by omega, y⟩
      · rintro ⟨z, y⟩
        exact ⟨by omega, y⟩
    rw [e1, hr.c k a ha, if_pos hk]
    have en := hnm a ha
    rw [en] at hor
    show formu P S goal a k = List.countP (fun x => decide (gd o x = gd o a)) (sl S (gd nm (gd o a)))
    rw [en]
    unfold formu
    rw [if_pos (by rcases hor with h | h; exact .inl h.symm; exact .inr h.symm)]
    rw [List.count]
    refine List.countP_congr fun x hx => ?_
    have hx2 := ((hs (gd P a) (hP a ha)).2 x hx).1
    simp only [beq_iff_eq, decide_eq_true_iff]
    exact ⟨fun z => by rw [z], fun z => oinj _ _ hx2 ha z⟩
  · obtain ⟨h1, h2⟩ := hs q hq
    rw [← h1, ← sum_count (F := (List.range N).filter fun p => decide (gd nm p = q)) (List.nodup_range.filter _) (gd o) (sl S q) fun x hx => ?_]
    · congr 1
      refine List.map_congr_left fun p hp => ?_
      have := (List.mem_filter.mp hp).2
      rw [of_decide_eq_true this]
    · obtain ⟨x1, x2⟩ := h2 x hx
      refine List.mem_filter.mpr ⟨List.mem_range.mpr (olt x x1), ?_⟩
      rw [hnm x x1, x2]
      exact decide_eq_true rfl
end G3

set_option Elab.async false
set_option linter.all false
set_option maxRecDepth 100000
set_option maxHeartbeats 4000000
namespace G3
open PySem PySem.Spec PyProof.Rows L2
theorem sl_lt {S : List (List Nat)} {c : List Nat} {q : Nat} (h : q < S.length) : sl (S ++ [c]) q = sl S q := by
  unfold sl
  rw [List.getD_eq_getElem?_getD, List.getD_eq_getElem?_getD, List.getElem?_append_left h]
theorem sl_eq {S : List (List Nat)} {c : List Nat} : sl (S ++ [c]) S.length = c := by
  unfold sl
  rw [List.getD_eq_getElem?_getD, List.getElem?_append_right (Nat.le_refl _), Nat.sub_self]; rfl
theorem gd_lt {P Q : List Nat} {x : Nat} (h : x < P.length) : gd (P ++ Q) x = gd P x := by
  unfold gd
  rw [List.getD_eq_getElem?_getD, List.getD_eq_getElem?_getD, List.getElem?_append_left h]
theorem gd_rep {P : List Nat} {j i x : Nat} (h1 : P.length ≤ x) (h2 : x < P.length + j) : gd (P ++ List.replicate j i) x = i := by
  unfold gd
  rw [List.getD_eq_getElem?_getD, List.getElem?_append_right h1, List.getElem?_replicate, if_pos (by omega)]; rfl
def SlH (H : Hp) (Pl Sl : Addr) (rs : List V) (S : List (List Nat)) : Prop := All2 (fun v s => ∃ a, v = .ref a ∧ a ≠ Pl ∧ a ≠ Sl ∧ H a = some (.lst (s.map nV))) rs S
theorem SlH.same {H H' : Hp} {Pl Sl : Addr} {rs : List V} {S : List (List Nat)} (h : SlH H Pl Sl rs S) (e : Same H H') : SlH H' Pl Sl rs S := h.mono fun v s ⟨a, a1, a2, a3, a4⟩ => ⟨a, a1, a2, a3, e _ _ a4⟩
theorem SlH.mutP {H : Hp} {Pl Sl : Addr} {rs : List V} {S : List (List Nat)} {o : HO} (h : SlH H Pl Sl rs S) : SlH (upd H Pl o) Pl Sl rs S := h.mono fun v s ⟨a, a1, a2, a3, a4⟩ => ⟨a, a1, a2, a3, by rw [upd_ne a2]; exact a4⟩
theorem SlH.mutS {H : Hp} {Pl Sl : Addr} {rs : List V} {S : List (List Nat)} {o : HO} (h : SlH H Pl Sl rs S) : SlH (upd H Sl o) Pl Sl rs S := h.mono fun v s ⟨a, a1, a2, a3, a4⟩ => ⟨a, a1, a2, a3, by rw [upd_ne a3]; exact a4⟩
def Trip (H : Hp) (v : V) (r : R3) : Prop := ∃ t, v = .ref t ∧ H t = some (.tup [nV r.1, nV r.2.1, optV r.2.2])
theorem Trip.same {H H' : Hp} {v : V} {r : R3} (h : Trip H v r) (e : Same H H') : Trip H' v r := by
  obtain ⟨t, h1, h2⟩ := h
  exact ⟨t, h1, e _ _ h2⟩
theorem Trip.mut {H : Hp} {v : V} {r : R3} {L : Addr} {xs : List V} {o : HO} (h : Trip H v r) (hL : H L = some (.lst xs)) : Trip (upd H L o) v r := by
  obtain ⟨t, h1, h2⟩ := h
  exact ⟨t, h1, by rw [upd_ne (ne_of h2 hL (fun z => by cases z))]; exact h2⟩
def RowsL (H : Hp) (L : Addr) (R : List R3) : Prop := ∃ vs, H L = some (.lst vs) ∧ All2 (Trip H) vs R
theorem RowsL.same {H H' : Hp} {L : Addr} {R : List R3} (h : RowsL H L R) (e : Same H H') : RowsL H' L R := by
  obtain ⟨vs, h1, h2⟩ := h
  exact ⟨vs, e _ _ h1, h2.mono fun _ _ h => h.same e⟩
theorem RowsL.push {H H1 : Hp} {L T : Addr} {R : List R3} {r : R3} {x y z : V} (h : RowsL H L R) (e : Same H H1) (nT : H1 T = none) (hx : x = nV r.1) (hy : y = nV r.2.1) (hz : z = optV r.2.2) :
    ∃ vs, (upd H1 T (.tup [x, y, z])) L = some (.lst vs) ∧ vs.length = R.length ∧ RowsL (upd (upd H1 T (.tup [x, y, z])) L (.lst (vs ++ [.ref T]))) L (R ++ [r]) := by
  subst hx hy hz
  obtain ⟨vs, h1, h2⟩ := h
  have sT : Same H1 (upd H1 T (.tup [nV r.1, nV r.2.1, optV r.2.2])) := same_upd nT
  have hL := sT _ _ (e _ _ h1)
  refine ⟨vs, hL, h2.len, _, upd_same, All2.snoc (h2.mono fun v r h => ((h.same e).same sT).mut hL) ⟨T, rfl, ?_⟩⟩
  have ne : T ≠ L := fun z => by rw [z, e _ _ h1] at nT; cases nT
  rw [upd_ne ne, upd_same]
def kI : Option Nat → Int
  | none => -1
  | some k => (k : Nat)
/-- behind sorting -/
def Trip2 (H : Hp) (v : V) (t : Pr × Option Nat) : Prop := ∃ a, v = .ref a ∧ H a = some (.tup [nV t.1.1, nV t.1.2, .int (kI t.2)])
theorem Trip2.same {H H' : Hp} {v : V} {r : Pr × Option Nat} (h : Trip2 H v r) (e : Same H H') : Trip2 H' v r := by
  obtain ⟨t, h1, h2⟩ := h
  exact ⟨t, h1, e _ _ h2⟩
theorem Trip2.mut {H : Hp} {v : V} {r : Pr × Option Nat} {L : Addr} {xs : List V} {o : HO} (h : Trip2 H v r) (hL : H L = some (.lst xs)) : Trip2 (upd H L o) v r := by
  obtain ⟨t, h1, h2⟩ := h
  exact ⟨t, h1, by rw [upd_ne (ne_of h2 hL (fun z => by cases z))]; exact h2⟩
def triD (t : Pr × Option Nat) : PyData := .tuple ([(t.1.1 : Int), (t.1.2 : Int), kI t.2].map PyData.int)
def decD : PyData → Pr × Option Nat
  | .tuple [.int a, .int b, .int c] => ((a.toNat, b.toNat), if c < 0 then none else some c.toNat)
  | _ => ((0, 0), none)
theorem dec_tri (t : Pr × Option Nat) : decD (triD t) = t := by
  obtain ⟨⟨a, b⟩, o⟩ := t
  show ((((a : Int)).toNat, ((b : Int)).toNat), if kI o < 0 then none else some (kI o).toNat) = ((a, b), o)
  cases o with
  | none => rfl
  | some k =>
    have : ¬ ((k : Nat) : Int) < 0 := by omega
    show ((((a : Int)).toNat, ((b : Int)).toNat), if ((k : Nat) : Int) < 0 then none else some ((k : Nat) : Int).toNat) = ((a, b), some k)
    rw [if_neg this]; rfl
theorem tri_lt {s t : Pr × Option Nat} (h : PySem.W.dataLt (triD t) (triD s) = false) : s.1.1 < t.1.1 ∨ s.1.1 = t.1.1 ∧ s.1.2 ≤ t.1.2 := by
  unfold triD at h
  rw [PySem.W.dataLt_tuple] at h
  have e := PySem.W.dataLt_ints [(t.1.1 : Int), (t.1.2 : Int), kI t.2] [(s.1.1 : Int), (s.1.2 : Int), kI s.2]
  unfold PySem.W.rowLt at e
  rw [e, decide_eq_false_iff_not] at h
  rw [List.cons_lt_cons_iff, List.cons_lt_cons_iff] at h
  omega
theorem sorted_tri {bs : List (V × PyData)} {T0 : List (Pr × Option Nat)} (hb : bs.map (·.2) = T0.map triD) : ∃ T : List (Pr × Option Nat), (bs.mergeSort (PySem.W.dataLe false Prod.snd)).map (·.2) = T.map triD ∧ T.Perm T0 ∧ Lex (T.map (·.1)) := by
  have pm : (bs.mergeSort (PySem.W.dataLe false Prod.snd)).Perm bs := List.mergeSort_perm _ _
  have pw : (bs.mergeSort (PySem.W.dataLe false Prod.snd)).Pairwise fun a b => PySem.W.dataLe false Prod.snd a b = true := PySem.W.sort_pairwise (PySem.W.sortLe_total (listOrd itemOrd) false fun b : V × PyData => PySem.W.keyToks b.2) bs
  have tri : ∀ b ∈ bs.mergeSort (PySem.W.dataLe false Prod.snd), triD (decD b.2) = b.2 := fun b hb' => by
    have : b.2 ∈ T0.map triD := by rw [← hb]; exact List.mem_map.mpr ⟨b, pm.mem_iff.mp hb', rfl⟩
    obtain ⟨t, _, e⟩ := List.mem_map.mp this
    rw [← e, dec_tri]
  refine ⟨(bs.mergeSort (PySem.W.dataLe false Prod.snd)).map fun b => decD b.2, ?_, ?_, ?_⟩
  · rw [List.map_map]
    exact List.map_congr_left fun b hb' => (tri b hb').symm
  · have h1 := pm.map fun b : V × PyData => decD b.2
    have e : bs.map (fun b : V × PyData => decD b.2) = T0 := by
      have : bs.map (fun b : V × PyData => decD b.2) = (bs.map (·.2)).map decD := by rw [List.map_map]; rfl
      rw [this, hb, List.map_map]
      refine (List.map_congr_left fun t _ => ?_).trans (List.map_id _)
      exact dec_tri t
    rwa [e] at h1
  · rw [List.map_map]
    unfold Lex
    rw [List.pairwise_map]
    refine List.Pairwise.imp_of_mem (fun {a b} ha hb' h => ?_) pw
    have h : (!PySem.W.dataLt b.2 a.2) = true := h
    rw [Bool.not_eq_true', ← tri a ha, ← tri b hb'] at h
    exact tri_lt h
section
variable {P : Program} {w : World} {K : PySem.W.Frag} {mg : Str → Option Value} {base : Heap} {C CB fB : Addr}
end
end G3

set_option Elab.async false
set_option linter.all false
set_option maxRecDepth 100000
set_option maxHeartbeats 4000000
namespace G3
open PySem PySem.Spec PyProof.Rows L2
theorem g_nx {i : Nat} {v : V} {σ : L2.St} {H : Hp} {Q : L2.St → Hp → Prop} (h : Q (σ.set i (some v)) H) : gName i v σ H Q := h
theorem nx_ {f : L2.St → Hp → Prop} {r : VK} {b c : L2.St → Hp → Prop} {σ : L2.St} {H : Hp} (h : f σ H) : (Ends.mk f r b c).nx σ H := h
theorem zint (i : Nat) : V.int (0 + (i : Int)) = nV i := by rw [Int.zero_add]
theorem rep_flat (v : V) (k : Nat) : (List.replicate ((k : Nat) : Int).toNat [v]).flatten = List.replicate k v := by rw [Int.toNat_natCast, rep_pair]
theorem sum_take {ws : List Nat} {j m : Nat} (h : ws[j]? = some m) : (ws.take (j + 1)).sum = (ws.take j).sum + m := by
  rw [List.take_add_one, h]; simp
theorem sum_take_le : ∀ (ws : List Nat) (j : Nat), (ws.take j).sum ≤ ws.sum
  | [], j => by simp
  | w :: ws, 0 => by simp
  | w :: ws, j + 1 => by
    have := sum_take_le ws j
    rw [List.take_succ_cons, List.sum_cons, List.sum_cons]; omega
theorem All2.setLast {α : Type} {R : V → α → Prop} : ∀ {rs : List V} {S : List α} {c c' : α} {v : V}, All2 R rs (S ++ [c]) → R v c' → All2 R (rs.set S.length v) (S ++ [c'])
  | [], [], _, _, _, h, _ => h.elim
  | [x], [], _, _, _, h, hv => ⟨hv, True.intro⟩
  | x :: y :: r, [], _, _, _, h, _ => h.2.elim
  | [], s :: S, _, _, _, h, _ => h.elim
  | x :: r, s :: S, _, _, _, h, hv => ⟨h.1, All2.setLast h.2 hv⟩
theorem trip2_push {H H2 : Hp} {D T : Addr} {ts : List (Pr × Option Nat)} {t : Pr × Option Nat} {vs : List V} {x y z : V} (hD : H2 D = some (.lst vs)) (h : All2 (Trip2 H2) vs ts) (nT : H2 T = none) (s : Same H H2) (nD : H D = none) (hx : x = nV t.1.1) (hy : y = nV t.1.2) (hz : z = .int (kI t.2)) (hs : vs.length < sizeLine) :
    ∃ acc, (upd H2 T (.tup [x, y, z])) D = some (.lst acc) ∧ acc.length < sizeLine ∧ (Same H (upd (upd H2 T (.tup [x, y, z])) D (.lst (acc ++ [.ref T]))) ∧ ∃ vs', (upd (upd H2 T (.tup [x, y, z])) D (.lst (acc ++ [.ref T]))) D = some (.lst vs') ∧ All2 (Trip2 (upd (upd H2 T (.tup [x, y, z])) D (.lst (acc ++ [.ref T])))) vs' (ts ++ [t])) := by
  subst hx hy hz
  have sT : Same H2 (upd H2 T (.tup [nV t.1.1, nV t.1.2, .int (kI t.2)])) := same_upd nT
  have hD2 := sT _ _ hD
  refine ⟨vs, hD2, hs, same_mut (s.trans sT) nD, _, upd_same, All2.snoc (h.mono fun v r h => (h.same sT).mut hD2) ⟨T, rfl, ?_⟩⟩
  have ne : T ≠ D := fun z => by rw [z, hD] at nT; cases nT
  rw [upd_ne ne, upd_same]
theorem trip2_dp {K : PySem.W.Frag} {H : Hp} : ∀ {vs : List V} {ts : List (Pr × Option Nat)}, All2 (Trip2 H) vs ts → DpAll K H vs (ts.map triD)
  | [], [], _ => .nil
  | v :: vs, t :: ts, ⟨⟨a, h1, h2⟩, h⟩ => by
    subst h1
    rw [List.map_cons]
    exact .cons (.tup (SqT.of h2) (.cons (.int _) (.cons (.int _) (.cons (.int _) .nil)))) (trip2_dp h)
  | [], _ :: _, h => h.elim
  | _ :: _, [], h => h.elim
theorem trip2_zip {H : Hp} : ∀ {vs : List V} {ts : List (Pr × Option Nat)}, All2 (Trip2 H) vs ts → (vs.zip (ts.map triD)).map (·.1) = vs ∧ (vs.zip (ts.map triD)).map (·.2) = ts.map triD ∧ ∀ b ∈ vs.zip (ts.map triD), ∃ t, Trip2 H b.1 t ∧ b.2 = triD t
  | [], [], _ => ⟨rfl, rfl, fun b hb => nomatch hb⟩
  | v :: vs, t :: ts, h => by
    obtain ⟨h1, h2, h3⟩ := trip2_zip h.2
    rw [List.map_cons, List.zip_cons_cons, List.map_cons, List.map_cons, h1, h2]
    refine ⟨rfl, rfl, fun b hb => ?_⟩
    rcases List.mem_cons.mp hb with rfl | hb
    · exact ⟨t, h.1, rfl⟩
    · exact h3 b hb
  | [], _ :: _, h => h.elim
  | _ :: _, [], h => h.elim
theorem all2_sorted {H : Hp} : ∀ {l : List (V × PyData)} {T : List (Pr × Option Nat)}, (∀ b ∈ l, ∃ t, Trip2 H b.1 t ∧ b.2 = triD t) → l.map (·.2) = T.map triD → All2 (Trip2 H) (l.map (·.1)) T
  | [], [], _, _ => True.intro
  | b :: l, t :: T, h, e => by
    rw [List.map_cons, List.map_cons] at e
    injection e with e1 e2
    obtain ⟨t', h1, h2⟩ := h b (List.mem_cons_self ..)
    have : t' = t := by rw [← dec_tri t', ← dec_tri t, ← h2, e1]
    subst this
    exact ⟨h1, all2_sorted (fun b hb => h b (List.mem_cons_of_mem _ hb)) e2⟩
  | [], _ :: _, _, e => by cases e
  | _ :: _, [], _, e => by cases e
theorem min_v (a b : Nat) : V.int (if (b : Int) < (a : Int) then (b : Int) else (a : Int)) = nV (min a b) := congrArg V.int (by split <;> omega)
theorem max_v (a b : Nat) : V.int (if (b : Int) > (a : Int) then (b : Int) else (a : Int)) = nV (max a b) := congrArg V.int (by split <;> omega)
theorem gd_set {l : List Nat} {i j x : Nat} (hj : j < l.length) : gd (l.set i x) j = if i = j then x else gd l j := by
  have h1 := gd_get (l := l.set i x) (i := j) (by rw [List.length_set]; exact hj)
  have h2 := gd_get hj
  rw [List.getElem?_set] at h1
  by_cases c : i = j
  · subst c
    rw [if_pos rfl, if_pos hj] at h1
    rw [if_pos rfl]
    exact (Option.some.inj h1).symm
  · rw [if_neg c, h2] at h1
    rw [if_neg c]
    exact (Option.some.inj h1).symm
section
variable {P : Program} {w : World} {K : PySem.W.Frag} {mg : Str → Option Value} {base : Heap} {C CB fB : Addr}
abbrev n_law_map : List Str := ["pool", "n", "goal", "degree", "places", "slots", "place", "many", "rows", "k", "u", "v", "order", "turn", "one", "other", "group", "found", "names", "at"]
abbrev p_law_map : List Str := ["pool", "n", "goal", "degree"]
theorem sc_law_map : FnScope n_law_map p_law_map (defScope s_law_map) := ⟨rfl, rfl, rfl, by decide +kernel, rfl, by decide +kernel, by decide +kernel⟩
def spMap : Sp := fun vs H Q _ => ∃ (a g : Addr) (n d : Nat) (goal : List Pr), vs = [.ref a, nV n, .ref g, nV d] ∧ PoolAt H a ∧ PLst H g goal ∧ Good n goal ∧ 2 ≤ n ∧ 1 ≤ d ∧ n * (d + 1) ≤ 100 ∧ goal.length * d ≤ 4000 ∧
  ∀ (H' : Hp) (t eL nL iL : Addr) (N : Nat) (es : List Pr) (nm : List Nat) (im : List (Option Nat)), Same H H' → H' t = some (.tup [nV N, .ref eL, .ref nL, .ref iL]) → PLst H' eL es → H' nL = some (.lst (nm.map nV)) → H' iL = some (.lst (im.map optV)) → MapOk n goal d N es nm im → N ≤ 100 → N ≤ n * (d + 1) → es.length ≤ goal.length * d + 2 + N * N → Q (.ref t) H'
theorem ok_map (D : DefAt K mg "_law_map" "_law_map" s_law_map) (B : Bt mg) (h_law_take : Has P w K mg base CX0 2 "_law_take" p_law_take spTake) (h_law_sheets : Has P w K mg base CX0 3 "_law_sheets" p_law_sheets spSheets) (h_law_order : Has P w K mg base CX0 3 "_law_order" p_law_order spOrder) (h_law_pieces : Has P w K mg base CX0 1 "_law_pieces" p_law_pieces spPieces) : Has P w K mg base CX0 4 "_law_map" p_law_map spMap := by
  refine has_of D sc_law_map (fun _ _ _ _ _ _ us hl => match us, hl with | [_, _, _, _], _ => rfl) (fun vs H Q E h => ?_) (fun f cdv A outer s H vs Q E hr h => ?_)
  · obtain ⟨a, g, n, d, goal, rfl, _⟩ := h
    rfl
  · obtain ⟨a, g, n, d, goal, rfl, hp, ⟨gus, hg, hgus⟩, good, hn, hd, hnd, hgd, q⟩ := h
    have hb := good.1
    have hn100 : n ≤ 100 := Nat.le_trans (Nat.le_mul_of_pos_right n (Nat.succ_pos d)) hnd
    have hd100 : d ≤ 50 := by
      have : 2 * (d + 1) ≤ n * (d + 1) := Nat.mul_le_mul_right _ hn
      omega
    refine ⟨_, (pss_cons (ps_asg (pe_tup (pa_cons (pe_lst pa_nil) (pa_cons (pe_lst pa_nil) pa_nil))) (pgT (K := K) (n := 2) rfl rfl (pgs_cons (pg_name (i := 4) sc_law_map.nd rfl (.inl rfl)) (pgs_cons (pg_name (i := 5) sc_law_map.nd rfl (.inr rfl)) pgs_nil))))
  (pss_cons (ps_for PassesOwn.never rfl (pi_range1 rfl B.range (pa_cons (pv 1) pa_nil)) (pg_name (i := 6) sc_law_map.nd rfl (.inl rfl)) (pss_cons (ps_expr (pe_bm PySem.F.plainAttrs_list PySem.F.slot_list_append PySem.F.type_list_append mt_append (pv 5) (pa_cons (pe_lst pa_nil) pa_nil)))
  (pss_one (ps_for PassesOwn.never rfl (piL (K := K) rfl (pe_h h_law_sheets hr pass0 (pa_cons (pv 0) (pa_cons (pv 3) pa_nil)))) (pg_name (i := 7) sc_law_map.nd rfl (.inl rfl)) (pss_cons (ps_asg (pe_op op_cat (pe_ix (ixL (K := K) rfl) (pv 5) (pv 6) (fun _ _ => rfl)) (pe_op op_rep (pe_lst (pa_cons (pe_callB (lenK (K := K) rfl) rfl B.len PySem.boot_len (pa_cons (pv 4) pa_nil)) pa_nil)) (pv 7))) (pg_sub (pv 5) (pv 6) set_list))
  (pss_one (ps_expr (pe_bm PySem.F.plainAttrs_list PySem.F.slot_list_append PySem.F.type_list_append mt_append (pv 4) (pa_cons (pv 6) pa_nil)))))))))
  (pss_cons (ps_set (i := 8) sc_law_map.nd rfl (.inl rfl) (pe_lst pa_nil))
  (pss_cons (ps_for PassesOwn.never rfl (pi_range1 rfl B.range (pa_cons (pe_callB (lenK (K := K) rfl) rfl B.len PySem.boot_len (pa_cons (pv 2) pa_nil)) pa_nil)) (pg_name (i := 9) sc_law_map.nd rfl (.inr rfl)) (pss_cons (ps_asg (pe_ix (ixL (K := K) rfl) (pv 2) (pv 9) (fun _ _ => rfl)) (pgT (K := K) (n := 2) rfl rfl (pgs_cons (pg_name (i := 10) sc_law_map.nd rfl (.inr rfl)) (pgs_cons (pg_name (i := 11) sc_law_map.nd rfl (.inr rfl)) pgs_nil))))
  (pss_cons (ps_set (i := 12) sc_law_map.nd rfl (.inr rfl) (pe_h h_law_order hr pass0 (pa_cons (pv 0) (pa_cons (pv 3) pa_nil))))
  (pss_one (ps_set (i := 8) sc_law_map.nd rfl (.inl rfl) (pe_op op_cat (pv 8) (pe_lc (own := [("at", 19)]) (g := gName 19) (tt := tYes) rfl sc_law_map.nd (pi_range1 rfl B.range (pa_cons (pv 3) pa_nil)) (blkOk_by (N := n_law_map) (sc := defScope s_law_map) (by decide +kernel)) (fun _ _ _ _ _ => (pg_name (i := 19) sc_law_map.nd rfl (.inl rfl))) (fun _ _ _ _ _ => pts_nil) (fun _ _ _ _ _ => (pe_tup (pa_cons (pe_ix (ixL (K := K) rfl) (pe_ix (ixL (K := K) rfl) (pv 5) (pv 10) (fun _ _ => rfl)) (pv 19) (fun _ _ => rfl)) (pa_cons (pe_ix (ixL (K := K) rfl) (pe_ix (ixL (K := K) rfl) (pv 5) (pv 11) (fun _ _ => rfl)) (pe_ix (ixT (K := K) rfl) (pv 12) (pv 19) (fun _ _ => rfl)) (fun _ _ => rfl)) (pa_cons (pv 9) pa_nil))))))))))))
  (pss_cons (ps_for PassesOwn.never rfl (pi_range1 rfl B.range (pa_cons (pe_h h_law_take hr pass0 (pa_cons (pv 0) (pa_cons pe_int pa_nil))) pa_nil)) (pg_name (i := 13) sc_law_map.nd rfl (.inl rfl)) (pss_cons (ps_par (i := 14) (j := 15) rfl sc_law_map.nd rfl rfl (by decide) rfl rfl (pa_cons (pe_h h_law_take hr pass0 (pa_cons (pv 0) (pa_cons (pe_callB (lenK (K := K) rfl) rfl B.len PySem.boot_len (pa_cons (pv 4) pa_nil)) pa_nil))) (pa_cons (pe_h h_law_take hr pass0 (pa_cons (pv 0) (pa_cons (pe_callB (lenK (K := K) rfl) rfl B.len PySem.boot_len (pa_cons (pv 4) pa_nil)) pa_nil))) pa_nil)) rfl)
  (pss_one (ps_if (PW.pt (pw_and (pt_cmpR op_ne (pv 14) (pv 15) (nomark _)) (pw_and1 (pt_cmpR op_eq (pe_ix (ixL (K := K) rfl) (pv 4) (pv 14) (fun _ _ => rfl)) (pe_ix (ixL (K := K) rfl) (pv 4) (pv 15) (fun _ _ => rfl)) (nomark _))))) (pss_one (ps_expr (pe_bm PySem.F.plainAttrs_list PySem.F.slot_list_append PySem.F.type_list_append mt_append (pv 8) (pa_cons (pe_tup (pa_cons (pv 14) (pa_cons (pv 15) (pa_cons pe_non pa_nil)))) pa_nil)))) pss_nil))))
  (pss_cons (ps_for PassesOwn.never rfl (pi_range1 rfl B.range (pa_cons (pe_callB (lenK (K := K) rfl) rfl B.len PySem.boot_len (pa_cons (pv 4) pa_nil)) pa_nil)) (pg_name (i := 14) sc_law_map.nd rfl (.inl rfl)) (pss_one (ps_for PassesOwn.never rfl (pi_range1 rfl B.range (pa_cons (pv 14) pa_nil)) (pg_name (i := 15) sc_law_map.nd rfl (.inl rfl)) (pss_cons (ps_set (i := 16) sc_law_map.nd rfl (.inl rfl) (pe_h h_law_pieces hr pass0 (pa_cons (pe_callB (lenK (K := K) rfl) rfl B.len PySem.boot_len (pa_cons (pv 4) pa_nil)) (pa_cons (pe_lc (own := [("u", 10), ("v", 11), ("k", 9)]) (g := _) (tt := tYes) rfl sc_law_map.nd (piL (K := K) rfl (pv 8)) (blkOk_by (N := n_law_map) (sc := defScope s_law_map) (by decide +kernel)) (fun _ _ _ _ _ => (pgT (K := K) (n := 3) rfl rfl (pgs_cons (pg_name (i := 10) sc_law_map.nd rfl (.inl rfl)) (pgs_cons (pg_name (i := 11) sc_law_map.nd rfl (.inl rfl)) (pgs_cons (pg_name (i := 9) sc_law_map.nd rfl (.inl rfl)) pgs_nil))))) (fun _ _ _ _ _ => pts_nil) (fun _ _ _ _ _ => (pe_tup (pa_cons (pv 10) (pa_cons (pv 11) pa_nil))))) pa_nil))))
  (pss_one (ps_if (PW.pt (pw_and (pt_cmpR op_eq (pe_ix (ixL (K := K) rfl) (pv 4) (pv 14) (fun _ _ => rfl)) (pe_ix (ixL (K := K) rfl) (pv 4) (pv 15) (fun _ _ => rfl)) (nomark _)) (pw_and1 (pt_cmpR op_ne (pe_ix (ixL (K := K) rfl) (pv 16) (pv 14) (fun _ _ => rfl)) (pe_ix (ixL (K := K) rfl) (pv 16) (pv 15) (fun _ _ => rfl)) (nomark _))))) (pss_one (ps_expr (pe_bm PySem.F.plainAttrs_list PySem.F.slot_list_append PySem.F.type_list_append mt_append (pv 8) (pa_cons (pe_tup (pa_cons (pv 15) (pa_cons (pv 14) (pa_cons pe_non pa_nil)))) pa_nil)))) pss_nil))))))
  (pss_cons (ps_set (i := 12) sc_law_map.nd rfl (.inr rfl) (pe_h h_law_order hr pass0 (pa_cons (pv 0) (pa_cons (pe_callB (lenK (K := K) rfl) rfl B.len PySem.boot_len (pa_cons (pv 4) pa_nil)) pa_nil))))
  (pss_cons (ps_set (i := 17) sc_law_map.nd rfl (.inl rfl) (pe_callB (cr_sortDt (K := K) rfl hr.units) rfl B.sorted (by decide +kernel) (pa_cons (pe_lc (own := [("u", 10), ("v", 11), ("k", 9)]) (g := _) (tt := tYes) rfl sc_law_map.nd (piL (K := K) rfl (pv 8)) (blkOk_by (N := n_law_map) (sc := defScope s_law_map) (by decide +kernel)) (fun _ _ _ _ _ => (pgT (K := K) (n := 3) rfl rfl (pgs_cons (pg_name (i := 10) sc_law_map.nd rfl (.inl rfl)) (pgs_cons (pg_name (i := 11) sc_law_map.nd rfl (.inl rfl)) (pgs_cons (pg_name (i := 9) sc_law_map.nd rfl (.inl rfl)) pgs_nil))))) (fun _ _ _ _ _ => pts_nil) (fun _ _ _ _ _ => (pe_tup (pa_cons (pe_callB (call_min2 rfl) rfl B.min (by decide +kernel) (pa_cons (pe_ix (ixT (K := K) rfl) (pv 12) (pv 10) (fun _ _ => rfl)) (pa_cons (pe_ix (ixT (K := K) rfl) (pv 12) (pv 11) (fun _ _ => rfl)) pa_nil))) (pa_cons (pe_callB (call_max2 rfl) rfl B.max (by decide +kernel) (pa_cons (pe_ix (ixT (K := K) rfl) (pv 12) (pv 10) (fun _ _ => rfl)) (pa_cons (pe_ix (ixT (K := K) rfl) (pv 12) (pv 11) (fun _ _ => rfl)) pa_nil))) (pa_cons (pe_ifExp (pt_cmpR op_isN (pv 9) pe_non (nomark _)) (pe_un un_neg pe_int) (pv 9)) pa_nil)))))) pa_nil)))
  (pss_cons (ps_set (i := 18) sc_law_map.nd rfl (.inl rfl) (pe_op op_rep (pe_lst (pa_cons pe_int pa_nil)) (pe_callB (lenK (K := K) rfl) rfl B.len PySem.boot_len (pa_cons (pv 4) pa_nil))))
  (pss_cons (ps_for PassesOwn.never rfl (pi_range1 rfl B.range (pa_cons (pe_callB (lenK (K := K) rfl) rfl B.len PySem.boot_len (pa_cons (pv 4) pa_nil)) pa_nil)) (pg_name (i := 19) sc_law_map.nd rfl (.inl rfl)) (pss_one (ps_asg (pe_ix (ixL (K := K) rfl) (pv 4) (pv 19) (fun _ _ => rfl)) (pg_sub (pv 18) (pe_ix (ixT (K := K) rfl) (pv 12) (pv 19) (fun _ _ => rfl)) set_list))))
  (pss_one (ps_ret (pe_tup (pa_cons (pe_callB (lenK (K := K) rfl) rfl B.len PySem.boot_len (pa_cons (pv 4) pa_nil)) (pa_cons (pe_lc (own := [("u", 10), ("v", 11), ("k", 9)]) (g := _) (tt := tYes) rfl sc_law_map.nd (piL (K := K) rfl (pv 17)) (blkOk_by (N := n_law_map) (sc := defScope s_law_map) (by decide +kernel)) (fun _ _ _ _ _ => (pgT (K := K) (n := 3) rfl rfl (pgs_cons (pg_name (i := 10) sc_law_map.nd rfl (.inl rfl)) (pgs_cons (pg_name (i := 11) sc_law_map.nd rfl (.inl rfl)) (pgs_cons (pg_name (i := 9) sc_law_map.nd rfl (.inl rfl)) pgs_nil))))) (fun _ _ _ _ _ => pts_nil) (fun _ _ _ _ _ => (pe_tup (pa_cons (pv 10) (pa_cons (pv 11) pa_nil))))) (pa_cons (pv 18) (pa_cons (pe_lc (own := [("u", 10), ("v", 11), ("k", 9)]) (g := _) (tt := tYes) rfl sc_law_map.nd (piL (K := K) rfl (pv 17)) (blkOk_by (N := n_law_map) (sc := defScope s_law_map) (by decide +kernel)) (fun _ _ _ _ _ => (pgT (K := K) (n := 3) rfl rfl (pgs_cons (pg_name (i := 10) sc_law_map.nd rfl (.inl rfl)) (pgs_cons (pg_name (i := 11) sc_law_map.nd rfl (.inl rfl)) (pgs_cons (pg_name (i := 9) sc_law_map.nd rfl (.inl rfl)) pgs_nil))))) (fun _ _ _ _ _ => pts_nil) (fun _ _ _ _ _ => (pe_ifExp (pt_cmpR op_lt (pv 9) pe_int (nomark _)) pe_non (pv 9)))) pa_nil))))))))))))))))), ?_⟩
    refine ⟨by show 0 ≤ sizeLine; decide, fun Pl nPl => ⟨by show 0 ≤ sizeLine; decide, fun Sl nSl => ?_⟩⟩
    have sP : Same H (upd H Pl (.lst [])) := same_upd nPl
    have sS : Same (upd H Pl (.lst [])) (upd (upd H Pl (.lst [])) Sl (.lst [])) := same_upd nSl
    have nPS : Pl ≠ Sl := fun z => by rw [← z, upd_same] at nSl; cases nSl
    have hPl : (upd (upd H Pl (.lst [])) Sl (.lst [])) Pl = some (.lst []) := by rw [upd_ne nPS, upd_same]
    have hSl : (upd (upd H Pl (.lst [])) Sl (.lst [])) Sl = some (.lst []) := upd_same
    have nSlH : H Sl = none := by rwa [upd_ne (Ne.symm nPS)] at nSl
    have s0 := sP.trans sS
    refine ⟨by show 2 ≤ sizeLine; decide, fun T0 nT0 => ?_⟩
    have sT0 : Same (upd (upd H Pl (.lst [])) Sl (.lst [])) (upd (upd (upd H Pl (.lst [])) Sl (.lst [])) T0 (.tup [.ref Pl, .ref Sl])) := same_upd nT0
    have hT0 : (upd (upd (upd H Pl (.lst [])) Sl (.lst [])) T0 (.tup [.ref Pl, .ref Sl])) T0 = some (.tup [.ref Pl, .ref Sl]) := upd_same
    have s0 := s0.trans sT0
    have hPl := sT0 _ _ hPl
    have hSl := sT0 _ _ hSl
    generalize upd (upd (upd H Pl (.lst [])) Sl (.lst [])) T0 (.tup [.ref Pl, .ref Sl]) = H0 at s0 hPl hSl hT0
    refine ⟨T0, _, rfl, SqT.of hT0, rfl, _, _, rfl, _, _, rfl, rfl, ?_⟩
    refine ⟨_, rfl, n, rfl, by omega, by omega, for_range (lo := 0) (n := n) (fun i σ H' => ∃ (Ps : List Nat) (S : List (List Nat)) (rs : List V) (y6 y7 : Option V), σ = [some (.ref a), some (nV n), some (.ref g), some (nV d), some (.ref Pl), some (.ref Sl), y6, y7, none, none, none, none, none, none, none, none, none, none, none, none] ∧ Same H H' ∧ H' Pl = some (.lst (Ps.map nV)) ∧ H' Sl = some (.lst rs) ∧ SlH H' Pl Sl rs S ∧ S.length = i ∧ Ps.length ≤ i * (d + 1) ∧ SlotOk Ps.length Ps S d i ∧ ∀ x ∈ Ps, x < i) ?_ ?_ ?_⟩
    · exact ⟨[], [], [], _, _, rfl, s0, hPl, hSl, True.intro, rfl, Nat.zero_le _, fun q hq => absurd hq (Nat.not_lt_zero q), fun x hx => nomatch hx⟩
    · rintro i σ H' hi ⟨Ps, S, rs, y6, y7, rfl, sm, hP, hS, hSl, lS, lP, so, bP⟩
      rw [zint]
      refine ⟨_, rfl, .inl ⟨rfl, _, SqL.of hS⟩, by show 0 ≤ sizeLine; decide, fun c nc => ?_⟩
      have sc : Same H' (upd H' c (.lst [])) := same_upd nc
      have hc : (upd H' c (.lst [])) c = some (.lst []) := upd_same
      have hP1 := sc _ _ hP
      have hS1 := sc _ _ hS
      have hSl1 := hSl.same sc
      have sm1 := sm.trans sc
      have ncP : c ≠ Pl := fun z => by rw [z, hP] at nc; cases nc
      have ncS : c ≠ Sl := fun z => by rw [z, hS] at nc; cases nc
      generalize upd H' c (.lst []) = H1 at sc hc hP1 hS1 hSl1 sm1
      have lrs : rs.length = i := by rw [hSl.len, lS]
      refine ⟨_, _, _, rfl, rfl, hS1, size_lt (by rw [lrs]; omega), ?_⟩
      have sm2 : Same H (upd H1 Sl (.lst (rs ++ [.ref c]))) := same_mut sm1 nSlH
      have hS2 : (upd H1 Sl (.lst (rs ++ [.ref c]))) Sl = some (.lst (rs ++ [.ref c])) := upd_same
      have hP2 : (upd H1 Sl (.lst (rs ++ [.ref c]))) Pl = some (.lst (Ps.map nV)) := by rw [upd_ne nPS]; exact hP1
      have hc2 : (upd H1 Sl (.lst (rs ++ [.ref c]))) c = some (.lst []) := by rw [upd_ne ncS]; exact hc
      have hSl2 : SlH (upd H1 Sl (.lst (rs ++ [.ref c]))) Pl Sl (rs ++ [.ref c]) (S ++ [[]]) := All2.snoc hSl1.mutS ⟨c, rfl, ncP, ncS, hc2⟩
      generalize upd H1 Sl (.lst (rs ++ [.ref c])) = H2 at sm2 hS2 hP2 hc2 hSl2
      refine ⟨_, rfl, _, rfl, a, d, rfl, hp.same sm2, by omega, by omega, fun H3 Lw ws s3 nLw hLw hsum hlen => ⟨Lw, rfl, ⟨_, SqL.of hLw⟩, ?_⟩⟩
      have nLP : Lw ≠ Pl := fun z => by rw [z, hP2] at nLw; cases nLw
      have nLS : Lw ≠ Sl := fun z => by rw [z, hS2] at nLw; cases nLw
      refine for_list (K := K) (a := Lw) (xs := ws.map nV) (fun j σ H' => ∃ (S1 : List Nat) (rs' : List V) (y7 : Option V), σ = [some (.ref a), some (nV n), some (.ref g), some (nV d), some (.ref Pl), some (.ref Sl), some (nV i), y7, none, none, none, none, none, none, none, none, none, none, none, none] ∧ Same H H' ∧ H' Pl = some (.lst ((Ps ++ List.replicate j i).map nV)) ∧ H' Sl = some (.lst rs') ∧ SlH H' Pl Sl rs' (S ++ [S1]) ∧ H' Lw = some (.lst (ws.map nV)) ∧ S1.length = (ws.take j).sum ∧ ∀ x ∈ S1, Ps.length ≤ x ∧ x < Ps.length + j) ?_ ?_ ?_ ?_
      · exact ⟨[], _, _, rfl, sm2.trans s3, by rw [List.replicate_zero, List.append_nil]; exact s3 _ _ hP2, s3 _ _ hS2, hSl2.same s3, hLw, rfl, fun x hx => nomatch hx⟩
      · rintro j σ H' _ ⟨_, _, _, _, _, _, _, _, hL, _⟩
        exact SqL.of hL
      · rintro j x σ H4 hx ⟨S1, rs', y7', rfl, sm4, hP4, hS4, hSl4, hL4, lS1, bS1⟩
        rw [List.getElem?_map] at hx
        obtain ⟨m, hm, rfl⟩ := Option.map_eq_some_iff.mp hx
        have hj : j < ws.length := (List.getElem?_eq_some_iff.mp hm).1
        have hst := sum_take hm
        have hsl := sum_take_le ws (j + 1)
        obtain ⟨v, hv, cu, rfl, ncuP, ncuS, hcu⟩ := All2.get hSl4 (i := i) (r := S1) (by rw [← lS, List.getElem?_append_right (Nat.le_refl _), Nat.sub_self]; rfl)
        have lrs4 : rs'.length = i + 1 := by rw [hSl4.len, List.length_append, lS]; rfl
        have lPj : (Ps ++ List.replicate j i).length = Ps.length + j := by rw [List.length_append, List.length_replicate]
        have hiN : (i + 1) * (d + 1) ≤ 100 := Nat.le_trans (Nat.mul_le_mul_right _ (by omega)) hnd
        have hiN2 : (i + 1) * (d + 1) = i * (d + 1) + (d + 1) := Nat.succ_mul _ _
        refine ⟨_, rfl, _, rfl, _, _, i, _, rfl, rfl, SqL.of hS4, atI_nat hv, _, rfl, _, Ps.length + j, rfl, .inl ⟨_, SqL.of hP4, by rw [List.length_map, lPj]⟩, by show 1 ≤ sizeLine; decide, fun z nz => ?_⟩
        have sz : Same H4 (upd H4 z (.lst [.int ((Ps.length + j : Nat) : Int)])) := same_upd nz
        have hz : (upd H4 z (.lst [.int ((Ps.length + j : Nat) : Int)])) z = some (.lst [nV (Ps.length + j)]) := upd_same
        generalize upd H4 z (.lst [.int ((Ps.length + j : Nat) : Int)]) = H5 at sz hz
        refine ⟨_, rfl, z, m, [nV (Ps.length + j)], rfl, rfl, hz, by omega, by omega, size_le (by show 1 * _ ≤ _; omega), fun z2 nz2 => ?_⟩
        rw [rep_flat]
        have sz2 : Same H5 (upd H5 z2 (.lst (List.replicate m (nV (Ps.length + j))))) := same_upd nz2
        have hz2 : (upd H5 z2 (.lst (List.replicate m (nV (Ps.length + j))))) z2 = some (.lst (List.replicate m (nV (Ps.length + j)))) := upd_same
        have hcu5 := sz2 _ _ (sz _ _ hcu)
        have s45 := sz.trans sz2
        generalize upd H5 z2 (.lst (List.replicate m (nV (Ps.length + j)))) = H6 at sz2 hz2 hcu5 s45
        refine ⟨cu, z2, _, _, rfl, rfl, hcu5, hz2, size_le (by rw [List.length_map, List.length_replicate]; omega), fun c2 nc2 => ?_⟩
        have ecat : S1.map nV ++ List.replicate m (nV (Ps.length + j)) = (S1 ++ List.replicate m (Ps.length + j)).map nV := by rw [List.map_append, List.map_replicate]
        rw [ecat]
        have s67 : Same H6 (upd H6 c2 (.lst ((S1 ++ List.replicate m (Ps.length + j)).map nV))) := same_upd nc2
        have hc27 : (upd H6 c2 (.lst ((S1 ++ List.replicate m (Ps.length + j)).map nV))) c2 = some (.lst ((S1 ++ List.replicate m (Ps.length + j)).map nV)) := upd_same
        have s47 := s45.trans s67
        have nc2P : c2 ≠ Pl := fun z => by rw [z, s45 _ _ hP4] at nc2; cases nc2
        have nc2S : c2 ≠ Sl := fun z => by rw [z, s45 _ _ hS4] at nc2; cases nc2
        generalize upd H6 c2 (.lst ((S1 ++ List.replicate m (Ps.length + j)).map nV)) = H7 at s67 hc27 s47
        have hS7 := s47 _ _ hS4
        have hP7 := s47 _ _ hP4
        have hL7 := s47 _ _ hL4
        refine ⟨_, rfl, _, rfl, Sl, _, i, i, rfl, rfl, hS7, Evl.ixN_nat (by omega), ?_⟩
        have hS8 : (upd H7 Sl (.lst (rs'.set i (.ref c2)))) Sl = some (.lst (rs'.set i (.ref c2))) := upd_same
        have hP8 : (upd H7 Sl (.lst (rs'.set i (.ref c2)))) Pl = some (.lst ((Ps ++ List.replicate j i).map nV)) := by rw [upd_ne nPS]; exact hP7
        have hL8 : (upd H7 Sl (.lst (rs'.set i (.ref c2)))) Lw = some (.lst (ws.map nV)) := by rw [upd_ne nLS]; exact hL7
        have hc8 : (upd H7 Sl (.lst (rs'.set i (.ref c2)))) c2 = some (.lst ((S1 ++ List.replicate m (Ps.length + j)).map nV)) := by rw [upd_ne nc2S]; exact hc27
        have hSl8 : SlH (upd H7 Sl (.lst (rs'.set i (.ref c2)))) Pl Sl (rs'.set i (.ref c2)) (S ++ [S1 ++ List.replicate m (Ps.length + j)]) := by
          have := All2.setLast (hSl4.same s47).mutS (v := .ref c2) (c' := S1 ++ List.replicate m (Ps.length + j)) ⟨c2, rfl, nc2P, nc2S, hc8⟩
          rwa [lS] at this
        have sm8 : Same H (upd H7 Sl (.lst (rs'.set i (.ref c2)))) := same_mut (sm4.trans s47) nSlH
        generalize upd H7 Sl (.lst (rs'.set i (.ref c2))) = H8 at hS8 hP8 hL8 hc8 hSl8 sm8
        refine ⟨_, rfl, .inl ⟨rfl, _, SqL.of hP8⟩, _, rfl, _, _, _, rfl, rfl, hP8, size_lt (by rw [List.length_map, lPj]; omega), ?_⟩
        have erep : (Ps ++ List.replicate j i).map nV ++ [nV i] = (Ps ++ List.replicate (j + 1) i).map nV := by
          rw [List.replicate_succ', ← List.append_assoc, List.map_append (l₂ := [i])]; rfl
        rw [erep]
        refine ⟨S1 ++ List.replicate m (Ps.length + j), _, _, rfl, same_mut sm8 nPl, upd_same, by rw [upd_ne (Ne.symm nPS)]; exact hS8, hSl8.mutP, by rw [upd_ne nLP]; exact hL8, by rw [List.length_append, List.length_replicate, lS1, hst], fun x hx => ?_⟩
        rcases List.mem_append.mp hx with hx | hx
        · have := bS1 x hx; omega
        · have := (List.mem_replicate.mp hx).2; omega
      · rintro σ H' ⟨S1, rs', y7', rfl, sm4, hP4, hS4, hSl4, hL4, lS1, bS1⟩
        rw [List.length_map] at hP4 bS1
        rw [List.length_map, List.take_length, hsum] at lS1
        have hiN2 : (i + 1) * (d + 1) = i * (d + 1) + (d + 1) := Nat.succ_mul _ _
        have lPj : (Ps ++ List.replicate ws.length i).length = Ps.length + ws.length := by rw [List.length_append, List.length_replicate]
        refine ⟨Ps ++ List.replicate ws.length i, S ++ [S1], _, _, _, rfl, sm4, hP4, hS4, hSl4, by rw [List.length_append, lS]; rfl, by omega, fun q hq => ?_, fun x hx => ?_⟩
        · by_cases hqi : q < i
          · rw [sl_lt (by omega), lPj]
            obtain ⟨q1, q2⟩ := so q hqi
            refine ⟨q1, fun x hx => ?_⟩
            obtain ⟨x1, x2⟩ := q2 x hx
            exact ⟨by omega, by rw [gd_lt x1]; exact x2⟩
          · obtain rfl : q = S.length := by omega
            rw [sl_eq, lPj]
            refine ⟨lS1, fun x hx => ?_⟩
            obtain ⟨x1, x2⟩ := bS1 x hx
            exact ⟨x2, by rw [gd_rep x1 x2, lS]⟩
        · rcases List.mem_append.mp hx with hx | hx
          · have := bP x hx; omega
          · have := (List.mem_replicate.mp hx).2; omega
    · rintro σ H1 ⟨Ps, S, rs, y6, y7, rfl, sm, hP, hS, hSl, lS, lP, so, bP⟩
      obtain ⟨N, hN⟩ : ∃ N, N = Ps.length := ⟨_, rfl⟩
      rw [← hN] at lP so
      have hN100 : N ≤ 100 := Nat.le_trans lP hnd
      have hgl : goal.length ≤ 4000 := Nat.le_trans (Nat.le_mul_of_pos_right _ hd) hgd
      have hPlt : ∀ x, x < N → gd Ps x < n := fun x hx => bP _ (gd_mem (by omega))
      refine ⟨by show 0 ≤ sizeLine; decide, fun R0 nR0 => ?_⟩
      refine ⟨_, rfl, _, goal.length, rfl, .inl ⟨_, SqL.of (sm.trans (same_upd nR0) _ _ hg), by rw [hgus.len]⟩, _, rfl, by omega, by omega, for_range (lo := 0) (n := goal.length) (fun i σ H' => ∃ (L : Addr) (R : List R3) (y9 y10 y11 y12 : Option V), σ = [some (.ref a), some (nV n), some (.ref g), some (nV d), some (.ref Pl), some (.ref Sl), y6, y7, some (.ref L), y9, y10, y11, y12, none, none, none, none, none, none, none] ∧ Same H1 H' ∧ H1 L = none ∧ RowsL H' L R ∧ RowsI N Ps S goal d i R ∧ R.length = i * d) ?_ ?_ ?_⟩
      · exact ⟨R0, [], _, _, _, _, rfl, same_upd nR0, nR0, ⟨[], upd_same, True.intro⟩, rowsI_nil, by rw [Nat.zero_mul]; rfl⟩
      · rintro i σ H2 hi ⟨L, R, y9, y10, y11, y12, rfl, s2, nL, hR, ri, lR⟩
        rw [zint]
        obtain ⟨t, e1, e2⟩ := hgus.get hi
        have eg : goal[i] = gE goal i := by unfold gE; rw [List.getD_eq_getElem?_getD, List.getElem?_eq_getElem hi]; rfl
        rw [eg] at e2
        have bu := hb _ (List.getElem_mem hi)
        rw [eg] at bu
        generalize hgE : gE goal i = uv at e2 bu
        obtain ⟨u, v⟩ := uv
        have bu1 : u < v := bu.1
        have bu2 : v < n := bu.2
        have sm2 := sm.trans s2
        refine ⟨_, rfl, _, rfl, _, _, i, _, rfl, rfl, SqL.of (sm2 _ _ hg), atI_nat e1, ?_⟩
        refine ⟨t, _, rfl, SqT.of (sm2 _ _ e2), rfl, _, _, rfl, _, _, rfl, rfl, ?_⟩
        refine ⟨_, rfl, _, rfl, a, (d : Int), rfl, hp.same sm2, by omega, by omega, fun H3 O o s3 hO pO => ?_⟩
        rw [Int.toNat_natCast] at pO
        have lo : o.length = d := by rw [pO.length_eq, List.length_range]
        have olt : ∀ x, x < d → gd o x < d := fun x hx => List.mem_range.mp (pO.mem_iff.mp (gd_mem (by omega)))
        have s13 := s2.trans s3
        have hS3 := s13 _ _ hS
        have hSl3 := hSl.same s13
        have slS : ∀ q, q < n → S[q]? = some (sl S q) := fun q hq => by unfold sl; rw [List.getD_eq_getElem?_getD, List.getElem?_eq_getElem (by omega)]; rfl
        obtain ⟨vu, hvu, au, rfl, _, _, hau⟩ := All2.get hSl3 (slS u (by omega))
        obtain ⟨vv, hvv, av, rfl, _, _, hav⟩ := All2.get hSl3 (slS v bu2)
        have lu := (so u (by omega)).1
        have lv := (so v bu2).1
        refine ⟨_, rfl, _, rfl, _, rfl, by omega, by omega, fun T nT => ?_⟩
        refine lc_range (lo := 0) (n := d) (fun j H4 => Same H3 H4 ∧ RowsL H4 T ((List.range j).map fun x => (gd (sl S u) x, gd (sl S v) (gd o x), some i))) ⟨same_upd nT, [], upd_same, True.intro⟩ ?_ ?_
        · rintro j H4 hj ⟨s4, hT4⟩
          rw [zint]
          refine ⟨rfl, yes_ ?_⟩
          have hoj := olt j hj
          refine ⟨_, rfl, _, rfl, _, _, u, _, rfl, rfl, SqL.of (s4 _ _ hS3), atI_nat hvu, _, rfl, _, _, j, _, rfl, rfl, SqL.of (s4 _ _ hau), atI_nat (map_get (by omega)), ?_⟩
          refine ⟨_, rfl, _, rfl, _, _, v, _, rfl, rfl, SqL.of (s4 _ _ hS3), atI_nat hvv, _, rfl, _, rfl, _, _, j, _, rfl, rfl, SqT.of (s4 _ _ hO), atI_nat (map_get (by omega)), _, _, gd o j, _, rfl, rfl, SqL.of (s4 _ _ hav), atI_nat (map_get (by omega)), ?_⟩
          refine ⟨_, rfl, by show 3 ≤ sizeLine; decide, fun Z nZ => ?_⟩
          obtain ⟨vs, h1, h2, h3⟩ := hT4.push (r := (gd (sl S u) j, gd (sl S v) (gd o j), some i)) (Same.refl H4) nZ rfl rfl rfl
          refine ⟨vs, h1, size_lt (by rw [h2, List.length_map, List.length_range]; omega), same_mut (s4.trans (same_upd nZ)) nT, ?_⟩
          rw [List.range_succ, List.map_append]
          exact h3
        · rintro H4 ⟨s4, vs4, h4, a4⟩
          obtain ⟨vs5, h5, a5⟩ := hR.same (s3.trans s4)
          have l4 := a4.len
          have l5 := a5.len
          rw [List.length_map, List.length_range] at l4
          have hid : (i + 1) * d ≤ 4000 := Nat.le_trans (Nat.mul_le_mul_right _ hi) hgd
          have hid2 : (i + 1) * d = i * d + d := Nat.succ_mul _ _
          refine ⟨L, T, _, _, rfl, rfl, h5, h4, size_le (by omega), fun p np => ?_⟩
          have s5 : Same H4 (upd H4 p (.lst (vs5 ++ vs4))) := same_upd np
          refine ⟨p, R ++ rowK S o d u v i, _, _, _, _, rfl, (s13.trans s4).trans s5, (s13.trans s4).free np, ⟨_, upd_same, All2.app (a5.mono fun _ _ h => h.same s5) (a4.mono fun _ _ h => h.same s5)⟩, ?_, ?_⟩
          · have := rowsI_step ri so hi (by rw [hgE]; show u < n; omega) (by rw [hgE]; exact bu2) (by rw [hgE]; show u ≠ v; omega) pO
            rwa [hgE] at this
          · have : (rowK S o d u v i).length = d := by unfold rowK; rw [List.length_map, List.length_range]
            rw [List.length_append, this]; omega
      · rintro σ H2 ⟨L, R, y9, y10, y11, y12, rfl, s2, nL, hR, ri, lR⟩
        have hN1 : 1 ≤ N := by
          obtain ⟨h1, h2⟩ := so 0 (by omega)
          have := h2 _ (gd_mem (show 0 < (sl S 0).length by omega))
          omega
        refine ⟨_, rfl, a, 3, rfl, hp.same (sm.trans s2), by decide, by decide, fun r r0 r1 => ?_⟩
        obtain ⟨m3, rfl⟩ : ∃ m : Nat, r = m := ⟨r.toNat, by omega⟩
        refine ⟨_, rfl, by omega, by omega, for_range (lo := 0) (n := m3) (fun i σ H' => ∃ (R : List R3) (y13 y14 y15 : Option V), σ = [some (.ref a), some (nV n), some (.ref g), some (nV d), some (.ref Pl), some (.ref Sl), y6, y7, some (.ref L), y9, y10, y11, y12, y13, y14, y15, none, none, none, none] ∧ Same H1 H' ∧ RowsL H' L R ∧ RowsI N Ps S goal d goal.length R ∧ R.length ≤ goal.length * d + i) ?_ ?_ ?_⟩
        · exact ⟨R, _, _, _, rfl, s2, hR, ri, by omega⟩
        · rintro i σ H3 hi ⟨R, y13, y14, y15, rfl, s3, hR, ri, lR⟩
          have hp3 := hp.same (sm.trans s3)
          have hP3 := s3 _ _ hP
          refine ⟨_, rfl, _, rfl, _, N, rfl, .inl ⟨_, SqL.of hP3, by rw [List.length_map, hN]⟩, a, _, rfl, hp3, by omega, by omega, fun r4 r40 r41 => ?_⟩
          obtain ⟨one, rfl⟩ : ∃ m : Nat, r4 = m := ⟨r4.toNat, by omega⟩
          refine ⟨_, rfl, _, rfl, _, N, rfl, .inl ⟨_, SqL.of hP3, by rw [List.length_map, hN]⟩, a, _, rfl, hp3, by omega, by omega, fun r5 r50 r51 => ?_⟩
          obtain ⟨oth, rfl⟩ : ∃ m : Nat, r5 = m := ⟨r5.toNat, by omega⟩
          have h1 : one < Ps.length := by omega
          have h2 : oth < Ps.length := by omega
          obtain ⟨vs0, hL0, aL0⟩ := hR
          have hR : RowsL H3 L R := ⟨vs0, hL0, aL0⟩
          refine ⟨_, _, rfl, ?_⟩
          refine nx_ ?_
          refine st_ite (ans_and2 (fun Q q => ⟨_, rfl, _, rfl, rfl, _, rfl, q⟩) (fun Q q => ⟨_, rfl, _, rfl, _, _, one, _, rfl, rfl, SqL.of hP3, atI_nat (map_get h1), _, rfl, _, rfl, _, _, oth, _, rfl, rfl, SqL.of hP3, atI_nat (map_get h2), rfl, _, rfl, q⟩)) (fun hc => ?_) (fun _ => ?_)
          · rw [Bool.and_eq_true, Bool.not_eq_true', decide_eq_false_iff_not, decide_eq_true_iff] at hc
            have ne : one ≠ oth := fun z => hc.1 (by rw [z])
            have eP : gd Ps one = gd Ps oth := by
              have := hc.2
              injection this with this
              exact Int.ofNat.inj this
            refine ⟨_, rfl, .inl ⟨rfl, _, SqL.of hL0⟩, _, rfl, _, rfl, by show 3 ≤ sizeLine; decide, fun Z nZ => ?_⟩
            obtain ⟨vs, g1, g2, g3⟩ := hR.push (r := (one, oth, none)) (Same.refl H3) nZ rfl rfl rfl
            refine ⟨_, _, _, rfl, rfl, g1, size_lt (by omega), ?_⟩
            exact ⟨R ++ [(one, oth, none)], _, _, _, rfl, same_mut (s3.trans (same_upd nZ)) nL, g3, rowsI_none ri (by omega) (by omega) ne eP, by rw [List.length_append]; show R.length + 1 ≤ _; omega⟩
          · exact ⟨R, _, _, _, rfl, s3, hR, ri, by omega⟩
        · rintro σ H3 ⟨R, y13, y14, y15, rfl, s3, hR, ri, lR⟩
          have hm3 : m3 ≤ 2 := by omega
          have hNN : N * N ≤ 100 * 100 := Nat.mul_le_mul hN100 hN100
          refine ⟨_, rfl, _, N, rfl, .inl ⟨_, SqL.of (s3 _ _ hP), by rw [List.length_map, hN]⟩, _, rfl, by omega, by omega, for_range (lo := 0) (n := N) (fun i σ H' => ∃ (R : List R3) (y14 y15 y16 : Option V), σ = [some (.ref a), some (nV n), some (.ref g), some (nV d), some (.ref Pl), some (.ref Sl), y6, y7, some (.ref L), y9, y10, y11, y12, y13, y14, y15, y16, none, none, none] ∧ Same H1 H' ∧ RowsL H' L R ∧ RowsI N Ps S goal d goal.length R ∧ R.length ≤ goal.length * d + 2 + i * N ∧ ∀ x y, y < x → x < i → gd Ps x = gd Ps y → Tog R x y) ?_ ?_ ?_⟩
          · exact ⟨R, _, _, _, rfl, s3, hR, ri, by omega, fun x y _ hx => absurd hx (Nat.not_lt_zero x)⟩
          · rintro i σ H4 hi ⟨R, y14, y15, y16, rfl, s4, hR, ri, lR, tg⟩
            rw [zint]
            have hiN : (i + 1) * N = i * N + N := Nat.succ_mul _ _
            have hiN2 : (i + 1) * N ≤ N * N := Nat.mul_le_mul_right _ hi
            refine ⟨_, rfl, _, rfl, by omega, by omega, for_range (lo := 0) (n := i) (fun j σ H' => ∃ (R : List R3) (y15 y16 : Option V), σ = [some (.ref a), some (nV n), some (.ref g), some (nV d), some (.ref Pl), some (.ref Sl), y6, y7, some (.ref L), y9, y10, y11, y12, y13, some (nV i), y15, y16, none, none, none] ∧ Same H1 H' ∧ RowsL H' L R ∧ RowsI N Ps S goal d goal.length R ∧ R.length ≤ goal.length * d + 2 + i * N + j ∧ (∀ x y, y < x → x < i → gd Ps x = gd Ps y → Tog R x y) ∧ ∀ y, y < j → gd Ps i = gd Ps y → Tog R i y) ?_ ?_ ?_⟩
            · exact ⟨R, _, _, rfl, s4, hR, ri, lR, tg, fun y hy => absurd hy (Nat.not_lt_zero y)⟩
            · rintro j σ H5 hj ⟨R, y15, y16, rfl, s5, hR, ri, lR, tg, tg2⟩
              rw [zint]
              obtain ⟨vs0, hL0, aL0⟩ := hR
              have hR : RowsL H5 L R := ⟨vs0, hL0, aL0⟩
              have hP5 := s5 _ _ hP
              refine ⟨_, rfl, _, N, rfl, .inl ⟨_, SqL.of hP5, by rw [List.length_map, hN]⟩, ?_⟩
              refine ⟨_, rfl, L, rfl, ⟨_, SqL.of hL0⟩, fun X nX => ?_⟩
              refine lc_list (K := K) (a := L) (xs := vs0) (fun m H6 => Same H5 H6 ∧ PLst H6 X (edR (R.take m))) ⟨same_upd nX, [], upd_same, True.intro⟩ (fun m H6 _ p => SqL.of (p.1 _ _ hL0)) ?_ ?_
              · rintro m x H6 hx ⟨s6, hX⟩
                obtain ⟨r, hr, t, rfl, ht⟩ := All2.get' aL0 hx
                have lm : m < R.length := (List.getElem?_eq_some_iff.mp hr).1
                refine ⟨t, _, rfl, SqT.of (s6 _ _ ht), rfl, _, _, rfl, _, _, rfl, _, _, rfl, rfl, ?_⟩
                refine ⟨rfl, yes_ ?_⟩
                refine ⟨_, rfl, _, rfl, by show 2 ≤ sizeLine; decide, fun Z nZ => ?_⟩
                obtain ⟨vs, h1, h2, h3⟩ := hX.push (a := r.1) (b := r.2.1) (Same.refl H6) nZ
                refine ⟨vs, h1, size_lt (by rw [h2]; unfold edR; rw [List.length_map, List.length_take]; omega), same_mut (s6.trans (same_upd nZ)) nX, ?_⟩
                have : edR (R.take (m + 1)) = edR (R.take m) ++ [(r.1, r.2.1)] := by
                  unfold edR
                  rw [List.take_add_one, hr, List.map_append]; rfl
                rw [this]
                exact h3
              · rintro H6 ⟨s6, hX⟩
                rw [aL0.len, List.take_length] at hX
                refine ⟨N, X, edR R, rfl, by omega, hX, fun e he => ?_, fun H7 G grp s7 hG lg pk => ?_⟩
                · obtain ⟨r, hr, rfl⟩ := List.mem_map.mp he
                  obtain ⟨r1, r2, _⟩ := ri.ok r hr
                  exact ⟨r1, r2⟩
                have s57 := s6.trans s7
                have s17 := s5.trans s57
                have hP7 := s17 _ _ hP
                have hR7 := hR.same s57
                obtain ⟨vs7, hL7, aL7⟩ := hR7
                have hR7 : RowsL H7 L R := ⟨vs7, hL7, aL7⟩
                have hi1 : i < Ps.length := by omega
                have hj1 : j < Ps.length := by omega
                have hig : i < grp.length := by omega
                have hjg : j < grp.length := by omega
                refine g_nx ?_
                refine nx_ ?_
                refine st_ite (ans_and2 (fun Q q => ⟨_, rfl, _, rfl, _, _, i, _, rfl, rfl, SqL.of hP7, atI_nat (map_get hi1), _, rfl, _, rfl, _, _, j, _, rfl, rfl, SqL.of hP7, atI_nat (map_get hj1), rfl, _, rfl, q⟩) (fun Q q => ⟨_, rfl, _, rfl, _, _, i, _, rfl, rfl, SqL.of hG, atI_nat (map_get hig), _, rfl, _, rfl, _, _, j, _, rfl, rfl, SqL.of hG, atI_nat (map_get hjg), rfl, _, rfl, q⟩)) (fun hc => ?_) (fun hc => ?_)
                · rw [Bool.and_eq_true, Bool.not_eq_true', decide_eq_false_iff_not, decide_eq_true_iff] at hc
                  have eP : gd Ps i = gd Ps j := by
                    have := hc.1
                    injection this with this
                    exact Int.ofNat.inj this
                  refine ⟨_, rfl, .inl ⟨rfl, _, SqL.of hL7⟩, _, rfl, _, rfl, by show 3 ≤ sizeLine; decide, fun Z nZ => ?_⟩
                  obtain ⟨vs, g1, g2, g3⟩ := hR7.push (r := (j, i, none)) (Same.refl H7) nZ rfl rfl rfl
                  refine ⟨_, _, _, rfl, rfl, g1, size_lt (by omega), ?_⟩
                  refine ⟨R ++ [(j, i, none)], _, _, rfl, same_mut (s17.trans (same_upd nZ)) nL, g3, rowsI_none ri (by omega) (by omega) (by omega) eP.symm, by rw [List.length_append]; show R.length + 1 ≤ _; omega, fun x y h1 h2 h3 => (tg x y h1 h2 h3).app, fun y hy e => ?_⟩
                  by_cases cy : y = j
                  · subst cy; exact tog_new
                  · exact (tg2 y (by omega) e).app
                · refine ⟨R, _, _, rfl, s17, hR7, ri, by omega, tg, fun y hy e => ?_⟩
                  by_cases cy : y = j
                  · subst cy
                    have e1 : decide (nV (Ps.getD i 0) = nV (Ps.getD y 0)) = true := decide_eq_true (congrArg nV e)
                    rw [e1, Bool.true_and, Bool.not_eq_false', decide_eq_true_iff] at hc
                    have hc : grp.getD i 0 = grp.getD y 0 := by
                      injection hc with hc
                      exact Int.ofNat.inj hc
                    exact fun f hf => pk f hf i y hig hjg hc
                  · exact tg2 y (by omega) e
            · rintro σ H5 ⟨R, y15, y16, rfl, s5, hR, ri, lR, tg, tg2⟩
              refine ⟨R, _, _, _, rfl, s5, hR, ri, by omega, fun x y hy hx e => ?_⟩
              by_cases cx : x = i
              · subst cx; exact tg2 y hy e
              · exact tg x y hy (by omega) e
          · rintro σ H4 ⟨R, y14, y15, y16, rfl, s4, hR, ri, lR, tg⟩
            have tog : ∀ x y, x < N → y < N → gd Ps x = gd Ps y → Tog R x y := fun x y hx hy e => by
              rcases Nat.lt_trichotomy x y with h | h | h
              · exact fun f hf => (tg y x h hy e.symm f hf).symm
              · subst h; exact fun f hf => rfl
              · exact tg x y h hx e
            refine ⟨_, rfl, _, rfl, _, N, rfl, .inl ⟨_, SqL.of (s4 _ _ hP), by rw [List.length_map, hN]⟩, a, (N : Int), rfl, hp.same (sm.trans s4), by omega, by omega, fun H5 O o s5 hO pO => ?_⟩
            rw [Int.toNat_natCast] at pO
            have lo : o.length = N := by rw [pO.length_eq, List.length_range]
            have olt : ∀ x, x < N → gd o x < N := fun x hx => List.mem_range.mp (pO.mem_iff.mp (gd_mem (by omega)))
            have ond : o.Nodup := pO.nodup_iff.mpr List.nodup_range
            have oinj : ∀ x y, x < N → y < N → gd o x = gd o y → x = y := fun x y ha hb e => by
              have h1 := gd_get (l := o) (i := x) (by omega)
              have h2 := gd_get (l := o) (i := y) (by omega)
              rw [e, ← h2] at h1
              exact (List.getElem?_inj (by omega) ond).mp h1
            obtain ⟨vs5, hL5, aL5⟩ := hR.same s5
            refine ⟨_, rfl, L, rfl, ⟨_, SqL.of hL5⟩, fun X nX => ?_⟩
            refine lc_list (K := K) (a := L) (xs := vs5) (fun m H6 => Same H5 H6 ∧ ∃ ws, H6 X = some (.lst ws) ∧ All2 (Trip2 H6) ws ((R.take m).map (relR o))) ⟨same_upd nX, [], upd_same, True.intro⟩ (fun m H6 _ p => SqL.of (p.1 _ _ hL5)) ?_ ?_
            · rintro m x H6 hx ⟨s6, ws, hX, aX⟩
              obtain ⟨r, hr, t, rfl, ht⟩ := All2.get' aL5 hx
              have lm : m < R.length := (List.getElem?_eq_some_iff.mp hr).1
              obtain ⟨r1, r2, _⟩ := ri.ok r (List.mem_of_getElem? hr)
              have et : (R.take (m + 1)).map (relR o) = (R.take m).map (relR o) ++ [relR o r] := by rw [List.take_add_one, hr, List.map_append]; rfl
              have lw : ws.length < sizeLine := size_lt (by rw [aX.len, List.length_map, List.length_take]; omega)
              have h1 : r.1 < o.length := by omega
              have h2 : r.2.1 < o.length := by omega
              refine ⟨t, _, rfl, SqT.of (s6 _ _ ht), rfl, _, _, rfl, _, _, rfl, _, _, rfl, rfl, ?_⟩
              refine ⟨rfl, yes_ ?_⟩
              have hO6 := s6 _ _ hO
              refine ⟨_, rfl, _, rfl, _, _, r.1, _, rfl, rfl, SqT.of hO6, atI_nat (map_get h1), _, rfl, _, rfl, _, _, r.2.1, _, rfl, rfl, SqT.of hO6, atI_nat (map_get h2), _, _, rfl, ?_⟩
              refine ⟨_, rfl, _, rfl, _, _, r.1, _, rfl, rfl, SqT.of hO6, atI_nat (map_get h1), _, rfl, _, rfl, _, _, r.2.1, _, rfl, rfl, SqT.of hO6, atI_nat (map_get h2), _, _, rfl, ?_⟩
              rw [et]
              cases hk : r.2.2 with
              | none =>
                refine ⟨_, rfl, rfl, _, rfl, iteT ?_⟩
                refine ⟨_, rfl, by show 3 ≤ sizeLine; decide, fun Z nZ => ?_⟩
                exact trip2_push (t := relR o r) hX aX nZ s6 nX (min_v _ _) (max_v _ _) (by show _ = V.int (kI r.2.2); rw [hk]; rfl) lw
              | some k =>
                refine ⟨_, rfl, rfl, _, rfl, iteF ?_⟩
                refine ⟨_, rfl, by show 3 ≤ sizeLine; decide, fun Z nZ => ?_⟩
                exact trip2_push (t := relR o r) hX aX nZ s6 nX (min_v _ _) (max_v _ _) (by show _ = V.int (kI r.2.2); rw [hk]; rfl) lw
            · rintro H6 ⟨s6, ws, hX, aX⟩
              rw [aL5.len, List.take_length] at aX
              obtain ⟨z1, z2, z3⟩ := trip2_zip aX
              refine ⟨X, ws.zip ((R.map (relR o)).map triD), rfl, by rw [z1]; exact SqL.of hX, by rw [z1, z2]; exact trip2_dp aX, by rw [z2]; exact PySem.W.AllAlike.of (enc := triD) (bs := R.map (relR o)) fun b b' => rfl, by rw [z2]; exact PySem.W.Sortable.tuples (enc := triD) (bs := R.map (relR o)) fun b => ⟨_, _, rfl⟩, fun b hb => ?_, fun F nF => ?_⟩
              · obtain ⟨t, _, e⟩ := z3 b hb
                rw [e]
                exact (show (triD t).depth ≤ 60 from by unfold triD; simp [PyData.depth, PyData.depthAll])
              obtain ⟨T, t1, t2, t3⟩ := sorted_tri z2
              have hTl : T.length ≤ 20000 := by rw [t2.length_eq, List.length_map]; omega
              have aT := all2_sorted (T := T) (H := H6) (fun b hb => z3 b ((List.mergeSort_perm _ _).mem_iff.mp hb)) t1
              generalize (List.mergeSort (ws.zip ((R.map (relR o)).map triD)) (PySem.W.dataLe false Prod.snd)).map Prod.fst = ys at aT
              have sF : Same H6 (upd H6 F (.lst ys)) := same_upd nF
              have hF : (upd H6 F (.lst ys)) F = some (.lst ys) := upd_same
              have aF := aT.mono fun _ _ h => h.same sF
              have s16 := (s4.trans s5).trans (s6.trans sF)
              have hO6 := (s6.trans sF) _ _ hO
              generalize upd H6 F (.lst ys) = H7 at sF hF aF s16 hO6
              have hP7 := s16 _ _ hP
              refine ⟨by show 1 ≤ sizeLine; decide, fun z nz => ?_⟩
              have sz : Same H7 (upd H7 z (.lst [.int 0])) := same_upd nz
              have hz : (upd H7 z (.lst [.int 0])) z = some (.lst [.int 0]) := upd_same
              have hP8 := sz _ _ hP7
              generalize upd H7 z (.lst [.int 0]) = H8 at sz hz hP8
              refine ⟨_, rfl, _, N, rfl, .inl ⟨_, SqL.of hP8, by rw [List.length_map, hN]⟩, ?_⟩
              refine ⟨z, N, [.int 0], rfl, rfl, hz, by omega, by omega, size_le (by show 1 * _ ≤ _; omega), fun M nM => ?_⟩
              rw [rep_flat]
              have sM : Same H8 (upd H8 M (.lst (List.replicate N (V.int 0)))) := same_upd nM
              have hM : (upd H8 M (.lst (List.replicate N (V.int 0)))) M = some (.lst ((List.replicate N 0).map nV)) := by rw [upd_same, List.map_replicate]; rfl
              have s18 := s16.trans (sz.trans sM)
              have nM1 : H1 M = none := (s16.trans sz).free nM
              have nFM : F ≠ M := fun e => by rw [← e, sz _ _ hF] at nM; cases nM
              have hF8 := (sz.trans sM) _ _ hF
              have aF8 := aF.mono fun _ _ h => h.same (sz.trans sM)
              have hO8 := (sz.trans sM) _ _ hO6
              generalize upd H8 M (.lst (List.replicate N (V.int 0))) = H9 at sM hM s18 hF8 aF8 hO8
              refine ⟨_, rfl, _, N, rfl, .inl ⟨_, SqL.of (s18 _ _ hP), by rw [List.length_map, hN]⟩, _, rfl, by omega, by omega, for_range (lo := 0) (n := N) (fun i σ H' => ∃ (nm : List Nat) (y19 : Option V), σ = [some (.ref a), some (nV n), some (.ref g), some (nV d), some (.ref Pl), some (.ref Sl), y6, y7, some (.ref L), y9, y10, y11, some (.ref O), y13, y14, y15, y16, some (.ref F), some (.ref M), y19] ∧ Same H1 H' ∧ H' M = some (.lst (nm.map nV)) ∧ H' F = some (.lst ys) ∧ H' O = some (.tup (o.map nV)) ∧ All2 (Trip2 H') ys T ∧ nm.length = N ∧ ∀ x, x < i → gd nm (gd o x) = gd Ps x) ?_ ?_ ?_⟩
              · exact ⟨_, _, rfl, s18, hM, hF8, hO8, aF8, List.length_replicate, fun x hx => absurd hx (Nat.not_lt_zero x)⟩
              · rintro i σ H10 hi ⟨nm, y19, rfl, s10, hM, hF, hO, aT, ln, hnm⟩
                rw [zint]
                have hi1 : i < Ps.length := by omega
                have hi2 : i < o.length := by omega
                have hoi := olt i hi
                refine ⟨_, rfl, _, rfl, _, _, i, _, rfl, rfl, SqL.of (s10 _ _ hP), atI_nat (map_get hi1), ?_⟩
                refine ⟨_, rfl, _, rfl, _, rfl, _, _, i, _, rfl, rfl, SqT.of hO, atI_nat (map_get hi2), M, _, gd o i, gd o i, rfl, rfl, hM, Evl.ixN_nat (by rw [List.length_map]; omega), ?_⟩
                have eset : (nm.map nV).set (gd o i) (nV (gd Ps i)) = (nm.set (gd o i) (gd Ps i)).map nV := List.map_set.symm
                refine ⟨nm.set (gd o i) (gd Ps i), _, rfl, same_mut s10 nM1, ?_, ?_, ?_, aT.mono fun v r h => h.mut hM, by rw [List.length_set]; exact ln, fun x hx => ?_⟩
                · rw [← eset]; exact upd_same
                · rw [upd_ne nFM]; exact hF
                · rw [upd_ne (ne_of hO hM (fun z => by cases z))]; exact hO
                · rw [gd_set (by have := olt x (by omega); omega)]
                  by_cases c : x = i
                  · subst c; rw [if_pos rfl]
                  · rw [if_neg (fun z => c (oinj _ _ hi (by omega) z).symm), hnm x (by omega)]
              · rintro σ H10 ⟨nm, y19, rfl, s10, hM, hF, hO, aT, ln, hnm⟩
                refine ⟨_, rfl, ?_⟩
                have lys := aT.len
                refine ⟨_, N, rfl, .inl ⟨_, SqL.of (s10 _ _ hP), by rw [List.length_map, hN]⟩, ?_⟩
                refine ⟨_, rfl, F, rfl, ⟨_, SqL.of hF⟩, fun A1 nA1 => ?_⟩
                refine lc_list (K := K) (a := F) (xs := ys) (fun m H11 => Same H10 H11 ∧ PLst H11 A1 ((T.take m).map (·.1))) ⟨same_upd nA1, [], upd_same, True.intro⟩ (fun m H11 _ p => SqL.of (p.1 _ _ hF)) ?_ ?_
                · rintro m x H11 hx ⟨s11, hX⟩
                  obtain ⟨r, hr, t, rfl, ht⟩ := All2.get' aT hx
                  have lm : m < T.length := (List.getElem?_eq_some_iff.mp hr).1
                  refine ⟨t, _, rfl, SqT.of (s11 _ _ ht), rfl, _, _, rfl, _, _, rfl, _, _, rfl, rfl, ?_⟩
                  refine ⟨rfl, yes_ ?_⟩
                  refine ⟨_, rfl, _, rfl, by show 2 ≤ sizeLine; decide, fun Z nZ => ?_⟩
                  obtain ⟨vs, h1, h2, h3⟩ := hX.push (a := r.1.1) (b := r.1.2) (Same.refl H11) nZ
                  refine ⟨vs, h1, size_lt (by rw [h2, List.length_map, List.length_take]; omega), same_mut (s11.trans (same_upd nZ)) nA1, ?_⟩
                  have : (T.take (m + 1)).map (·.1) = (T.take m).map (·.1) ++ [(r.1.1, r.1.2)] := by
                    rw [List.take_add_one, hr, List.map_append]; rfl
                  rw [this]
                  exact h3
                · rintro H11 ⟨s11, hX⟩
                  rw [lys, List.take_length] at hX
                  refine ⟨_, rfl, ?_⟩
                  have hF11 := s11 _ _ hF
                  refine ⟨_, rfl, F, rfl, ⟨_, SqL.of hF11⟩, fun A2 nA2 => ?_⟩
                  refine lc_list (K := K) (a := F) (xs := ys) (fun m H12 => Same H11 H12 ∧ H12 A2 = some (.lst (((T.take m).map (·.2)).map optV))) ⟨same_upd nA2, upd_same⟩ (fun m H12 _ p => SqL.of (p.1 _ _ hF11)) ?_ ?_
                  · rintro m x H12 hx ⟨s12, hX2⟩
                    obtain ⟨r, hr, t, rfl, ht⟩ := All2.get' aT hx
                    have lm : m < T.length := (List.getElem?_eq_some_iff.mp hr).1
                    refine ⟨t, _, rfl, SqT.of ((s11.trans s12) _ _ ht), rfl, _, _, rfl, _, _, rfl, _, _, rfl, rfl, ?_⟩
                    refine ⟨rfl, yes_ ?_⟩
                    have : ((T.take (m + 1)).map (·.2)).map optV = ((T.take m).map (·.2)).map optV ++ [optV r.2] := by
                      rw [List.take_add_one, hr, List.map_append, List.map_append]; rfl
                    rw [this]
                    have lacc : (((T.take m).map (·.2)).map optV).length < sizeLine := size_lt (by rw [List.length_map, List.length_map, List.length_take]; omega)
                    cases hk : r.2 with
                    | none => exact ⟨_, rfl, _, _, rfl, rfl, _, rfl, ifD (fun _ => ⟨_, hX2, lacc, same_mut s12 nA2, upd_same⟩) (fun z => absurd (show (-1 : Int) < 0 by decide) z)⟩
                    | some k =>
                      refine ⟨_, rfl, _, _, rfl, rfl, _, rfl, ifD (fun z => ?_) (fun _ => ?_)⟩
                      · have z : ((k : Nat) : Int) < 0 := z
                        omega
                      · exact ⟨_, rfl, _, hX2, lacc, same_mut s12 nA2, upd_same⟩
                  · rintro H12 ⟨s12, hX2⟩
                    rw [lys, List.take_length] at hX2
                    refine ⟨by show 4 ≤ sizeLine; decide, fun Z nZ => ?_⟩
                    have sZ : Same H12 (upd H12 Z (.tup [nV N, .ref A1, .ref M, .ref A2])) := same_upd nZ
                    refine q _ Z A1 M A2 N (T.map (·.1)) nm (T.map (·.2)) (sm.trans (s10.trans (s11.trans (s12.trans sZ)))) upd_same (hX.same (s12.trans sZ)) ((s11.trans (s12.trans sZ)) _ _ hM) (sZ _ _ hX2) ?_ hN100 lP (by rw [List.length_map, t2.length_eq, List.length_map]; exact lR)
                    exact map_ok ri so hd (by omega) good (fun e he => (hb e he).1) hPlt tog pO t2 t3 ln hnm
end
end G3

set_option Elab.async false
set_option linter.all false
set_option maxRecDepth 100000
set_option maxHeartbeats 4000000
namespace G3
open PySem PySem.Spec PyProof.Rows L2
theorem ixQ_row {K : PySem.W.Frag} {H : Hp} {Q : VK} {a : Addr} {xs : List V} {i : Nat} {v : V} (h : SqL K H a xs ∨ SqT K H a xs) (e : xs[i]? = some v) (q : Q v H) : rIx K (.ref a) (nV i) H Q :=
  h.elim (fun h => .inl ⟨_, _, _, _, rfl, rfl, h, atI_nat e, q⟩) fun h => .inr (.inl ⟨_, _, _, _, rfl, rfl, h, atI_nat e, q⟩)
theorem row_at {K : PySem.W.Frag} {H H' : Hp} {a : Addr} {xs : List V} (h : SqL K H a xs ∨ SqT K H a xs) (e : ∀ o, H a = some o → H' a = some o) : SqL K H' a xs ∨ SqT K H' a xs := h.imp (seqL_at e) (seqT_at e)
theorem row_len {K : PySem.W.Frag} {H : Hp} {a : Addr} {xs : List V} {n : Nat} (h : SqL K H a xs ∨ SqT K H a xs) (e : xs.length = n) : LenV K (.ref a) H n := by
  subst e; exact row_lenM h
theorem list_gd {l : List Nat} {m : Nat} {f : Nat → Nat} (h : l.length = m) (e : ∀ k, k < m → gd l k = f k) : l = (List.range m).map f := by
  subst h
  rw [← map_gd l, List.length_map, List.length_range]
  exact List.map_congr_left fun k hk => e k (List.mem_range.mp hk)
section
variable {P : Program} {w : World} {K : PySem.W.Frag} {mg : Str → Option Value} {base : Heap} {C CB fB : Addr}
abbrev n_law_counts : List Str := ["n", "edges", "images", "many", "found", "k", "at"]
abbrev p_law_counts : List Str := ["n", "edges", "images", "many"]
theorem sc_law_counts : FnScope n_law_counts p_law_counts (defScope s_law_counts) := ⟨rfl, rfl, rfl, by decide +kernel, rfl, by decide +kernel, by decide +kernel⟩
def spCounts (K : PySem.W.Frag) : Sp := fun vs H Q _ => ∃ (eL ia : Addr) (n many : Nat) (es : List Pr) (im : List (Option Nat)), vs = [nV n, .ref eL, .ref ia, nV many] ∧ PLst H eL es ∧ (SqL K H ia (im.map optV) ∨ SqT K H ia (im.map optV)) ∧ im.length = es.length ∧ (∀ e ∈ es, e.1 < e.2 ∧ e.2 < n) ∧ (∀ k, some k ∈ im → k < many) ∧ n ≤ 64 ∧ many ≤ 400 ∧ es.length ≤ 400 ∧
  ∀ (H' : Hp) (L : Addr) (as : List Addr), Same H H' → as.length = n → Rows H' L as (fun v => .lst (((List.range many).map (cntE es im v)).map nV)) → Q (.ref L) H'
theorem ok_counts (D : DefAt K mg "_law_counts" "_law_counts" s_law_counts) (B : Bt mg) : Has P w K mg base CX0 1 "_law_counts" p_law_counts (spCounts K) := by
  refine has_of D sc_law_counts (fun _ _ _ _ _ _ us hl => match us, hl with | [_, _, _, _], _ => rfl) (fun vs H Q E h => ?_) (fun f cdv A outer s H vs Q E hr h => ?_)
  · obtain ⟨eL, ia, n, many, es, im, rfl, _⟩ := h
    rfl
  · obtain ⟨eL, ia, n, many, es, im, rfl, ⟨vs, hL, hvs⟩, hia, lim, hb, hk, hn64, hm4, he4, q⟩ := h
    refine ⟨_, (pss_cons (ps_setLc (i := 4) (own := [("at", 6)]) (g := gName 6) (tt := tYes) rfl sc_law_counts.nd rfl rfl (sw_true rfl rfl rfl (by decide +kernel)) (pi_range1 rfl B.range (pa_cons (pv 0) pa_nil)) (blkOk_by (N := n_law_counts) (sc := defScope s_law_counts) (by decide +kernel)) (fun _ _ _ _ _ => (pg_name (i := 6) sc_law_counts.nd rfl (.inl rfl))) (fun _ _ _ _ _ => pts_nil) (fun _ _ _ _ _ => (pe_op op_rep (pe_lst (pa_cons pe_int pa_nil)) (pv 3))))
  (pss_cons (ps_for PassesOwn.never rfl (pi_range1 rfl B.range (pa_cons (pe_callB (lenK (K := K) rfl) rfl B.len PySem.boot_len (pa_cons (pv 1) pa_nil)) pa_nil)) (pg_name (i := 5) sc_law_counts.nd rfl (.inl rfl)) (pss_one (ps_if (pt_cmpR op_notN (pe_ix (ixQ (K := K) rfl) (pv 2) (pv 5) (fun _ _ => rfl)) pe_non (nomark _)) (pss_one (ps_for PassesOwn.never rfl (piT (K := K) rfl (pe_ix (ixL (K := K) rfl) (pv 1) (pv 5) (fun _ _ => rfl))) (pg_name (i := 6) sc_law_counts.nd rfl (.inl rfl)) (pss_one (ps_asg (pe_op op_add (pe_ix (ixL (K := K) rfl) (pe_ix (ixL (K := K) rfl) (pv 4) (pv 6) (fun _ _ => rfl)) (pe_ix (ixQ (K := K) rfl) (pv 2) (pv 5) (fun _ _ => rfl)) (fun _ _ => rfl)) pe_int) (pg_sub (pe_ix (ixL (K := K) rfl) (pv 4) (pv 6) (fun _ _ => rfl)) (pe_ix (ixQ (K := K) rfl) (pv 2) (pv 5) (fun _ _ => rfl)) set_list))))) pss_nil)))
  (pss_one (ps_ret (pv 4))))), ?_⟩
    have lvs := hvs.len
    refine ⟨_, rfl, n, rfl, by omega, by omega, fun B0 nB => ?_⟩
    refine lc_range (lo := 0) (n := n) (fun i H2 => Same H H2 ∧ ∃ as, as.length = i ∧ Rows H2 B0 as (fun _ => .lst ((List.replicate many 0).map nV)) ∧ ∀ a ∈ as, H a = none) ⟨same_upd nB, [], rfl, Rows.nil, fun a h => nomatch h⟩ ?_ ?_
    · rintro i H2 hi ⟨sm, as, las, ro, fr⟩
      refine ⟨rfl, yes_ ?_⟩
      refine ⟨by show 1 ≤ sizeLine; decide, fun z nz => ?_⟩
      have sz : Same H2 (upd H2 z (.lst [.int 0])) := same_upd nz
      have hz : (upd H2 z (.lst [.int 0])) z = some (.lst [.int 0]) := upd_same
      generalize upd H2 z (.lst [.int 0]) = H3 at sz hz
      refine ⟨_, rfl, z, many, [.int 0], rfl, rfl, hz, by omega, by omega, size_le (by show 1 * _ ≤ _; omega), fun a na => ?_⟩
      rw [rep_flat]
      have er : List.replicate many (V.int 0) = (List.replicate many 0).map nV := by rw [List.map_replicate]; rfl
      rw [er]
      obtain ⟨p1, p2⟩ := (ro.same sz).push (o := .lst ((List.replicate many 0).map nV)) na rfl
      refine ⟨_, p1, size_lt (by rw [List.length_map]; omega), same_mut ((sm.trans sz).trans (same_upd na)) nB, as ++ [a], by rw [List.length_append, las]; rfl, p2, fun x hx => ?_⟩
      rcases List.mem_append.mp hx with hx | hx
      · exact fr x hx
      · rw [List.mem_singleton.mp hx]; exact (sm.trans sz).free na
    rintro H2 ⟨sm2, as, las, ro, fr⟩
    have notAs : ∀ x o, H x = some o → ¬ x ∈ as := fun x o e z => by
      have := fr x z
      rw [e] at this; cases this
    have keep : ∀ {H3 : Hp} (x : Addr) (o : HO), But (· ∈ as) H2 H3 → H x = some o → H3 x = some o := fun x o bt e => bt _ _ (notAs _ _ e) (sm2 _ _ e)
    refine ⟨_, rfl, _, es.length, rfl, .inl ⟨_, SqL.of (sm2 _ _ hL), lvs.symm⟩, _, rfl, by omega, by omega, ?_⟩
    refine for_range (lo := 0) (n := es.length) (fun i σ H' => ∃ (y z : Option V) (cs : Nat → List Nat), σ = [some (nV n), some (.ref eL), some (.ref ia), some (nV many), some (.ref B0), y, z] ∧ But (· ∈ as) H2 H' ∧ Rows H' B0 as (fun v => .lst ((cs v).map nV)) ∧ ∀ v, (cs v).length = many ∧ ∀ k, k < many → gd (cs v) k = cntE (es.take i) (im.take i) v k) ?_ ?_ ?_
    · refine ⟨_, _, fun _ => List.replicate many 0, rfl, But.refl, ro, fun v => ⟨List.length_replicate, fun k hk => ?_⟩⟩
      unfold gd
      rw [List.getD_eq_getElem?_getD, List.getElem?_replicate, if_pos hk]; rfl
    · rintro i σ H' hi ⟨y, z, cs, rfl, bt, ro', hcs⟩
      rw [zint]
      obtain ⟨o, ho⟩ : ∃ o, im[i]? = some o := ⟨_, List.getElem?_eq_getElem (by omega)⟩
      have hov : (im.map optV)[i]? = some (optV o) := by rw [List.getElem?_map, ho]; rfl
      obtain ⟨tt, e1, e2⟩ := hvs.get hi
      have hes : es[i]? = some es[i] := List.getElem?_eq_getElem hi
      obtain ⟨b1, b2⟩ := hb _ (List.getElem_mem hi)
      generalize es[i] = e at e2 b1 b2 hes
      obtain ⟨a, b⟩ := e
      have b1 : a < b := b1
      have b2 : b < n := b2
      have hia' := row_at hia fun o e => keep _ _ bt e
      have step := fun v k => cntE_take hes ho v k
      refine ⟨_, rfl, _, rfl, ixQ_row hia' hov ?_⟩
      cases o with
      | none =>
        refine ⟨rfl, _, rfl, iteF ?_⟩
        refine ⟨_, _, cs, rfl, bt, ro', fun v => ⟨(hcs v).1, fun k hk => ?_⟩⟩
        rw [(hcs v).2 k hk, step, if_neg (fun z => by cases z.2)]; rfl
      | some k0 =>
        have hk0 : k0 < many := hk k0 (List.mem_of_getElem? ho)
        refine ⟨rfl, _, rfl, iteT ?_⟩
        have hL' := keep _ _ bt hL
        have ht := keep _ _ bt e2
        refine ⟨_, rfl, _, rfl, _, _, i, _, rfl, rfl, SqL.of hL', atI_nat e1, tt, rfl, ⟨_, SqT.of ht⟩, ?_⟩
        refine for_tup (K := K) (a := tt) (xs := [nV a, nV b]) (fun j σ H4 => ∃ (t : Option V) (cs' : Nat → List Nat), σ = [some (nV n), some (.ref eL), some (.ref ia), some (nV many), some (.ref B0), some (nV i), t] ∧ But (· ∈ as) H' H4 ∧ Rows H4 B0 as (fun v => .lst ((cs' v).map nV)) ∧ ∀ v, (cs' v).length = many ∧ ∀ k, k < many → gd (cs' v) k = cntE (es.take i) (im.take i) v k + if ((1 ≤ j ∧ a = v) ∨ (2 ≤ j ∧ b = v)) ∧ some k0 = some k then 1 else 0) ?_ ?_ ?_ ?_
        · refine ⟨_, cs, rfl, But.refl, ro', fun v => ⟨(hcs v).1, fun k hk => ?_⟩⟩
          rw [(hcs v).2 k hk, if_neg (fun z => by omega)]; rfl
        · rintro j σ H4 _ ⟨_, _, _, b4, _⟩
          exact SqT.of (b4 _ _ (notAs _ _ e2) ht)
        · rintro j x σ H4 hx ⟨t2, cs', rfl, b4, ro4, hk'⟩
          have hj : j < 2 := (List.getElem?_eq_some_iff.mp hx).1
          have hx : x = nV (if j = 0 then a else b) := by
            match j, hj with
            | 0, _ => cases hx; rfl
            | 1, _ => cases hx; rfl
          subst hx
          have lp : (if j = 0 then a else b) < as.length := by split <;> omega
          obtain ⟨p, hp⟩ : ∃ p, p = if j = 0 then a else b := ⟨_, rfl⟩
          rw [← hp] at lp ⊢
          have ha := (ro4.at lp).2
          obtain ⟨l1, l2⟩ := hk' p
          have base0 : gd (cs' p) k0 = cntE (es.take i) (im.take i) p k0 := by
            rw [l2 k0 hk0, if_neg]
            · rfl
            · intro z
              split at hp <;> omega
          have hia4 := row_at hia fun o e => keep _ _ (bt.trans b4) e
          refine ⟨_, rfl, _, rfl, _, _, p, .ref as[p], rfl, rfl, SqL.of ro4.1, atI_nat (rows_get lp), _, rfl, _, rfl, ixQ_row hia4 hov ?_⟩
          refine ⟨_, _, k0, _, rfl, rfl, SqL.of ha, atI_nat (map_get (by omega)), _, _, rfl, rfl, ?_⟩
          refine ⟨_, rfl, _, rfl, _, _, p, .ref as[p], rfl, rfl, SqL.of ro4.1, atI_nat (rows_get lp), _, rfl, _, rfl, ixQ_row hia4 hov ?_⟩
          refine ⟨as[p], _, k0, k0, rfl, rfl, ha, Evl.ixN_nat (by rw [List.length_map]; omega), ?_⟩
          have eset : ((cs' p).map nV).set k0 (V.int (((cs' p).getD k0 0 : Nat) + 1)) = ((cs' p).set k0 (gd (cs' p) k0 + 1)).map nV := List.map_set.symm
          rw [eset]
          have r1 := ro4.set (o := .lst (((cs' p).set k0 (gd (cs' p) k0 + 1)).map nV)) (List.getElem?_eq_getElem lp)
          have m1 : But (· ∈ as) H4 (upd H4 as[p] (.lst (((cs' p).set k0 (gd (cs' p) k0 + 1)).map nV))) := But.mut (X := (· ∈ as)) (List.getElem_mem lp)
          refine ⟨_, fun v => if v = p then (cs' p).set k0 (gd (cs' p) k0 + 1) else cs' v, rfl, b4.trans m1, r1.to fun v hv => ?_, fun v => ?_⟩
          · show (if v = p then _ else _) = HO.lst ((if v = p then _ else _ : List Nat).map nV)
            split <;> rfl
          · show (if v = p then _ else _ : List Nat).length = many ∧ ∀ k, k < many → gd (if v = p then _ else _ : List Nat) k = _
            by_cases c : v = p
            · rw [if_pos c, List.length_set]
              refine ⟨l1, fun u hu => ?_⟩
              rw [gd_set (by omega)]
              by_cases d : k0 = u
              · subst d
                rw [if_pos rfl, base0, c, if_pos]
                refine ⟨?_, rfl⟩
                split at hp <;> omega
              · rw [if_neg d, l2 u hu, c, if_neg, if_neg]
                · intro z
                  exact d (Option.some.inj z.2)
                · intro z
                  exact d (Option.some.inj z.2)
            · rw [if_neg c]
              refine ⟨(hk' v).1, fun u hu => ?_⟩
              rw [(hk' v).2 u hu]
              congr 1
              have e : (((1 ≤ j ∧ a = v) ∨ (2 ≤ j ∧ b = v)) ∧ some k0 = some u) ↔ (((1 ≤ j + 1 ∧ a = v) ∨ (2 ≤ j + 1 ∧ b = v)) ∧ some k0 = some u) := by
                refine and_congr_left fun _ => ?_
                split at hp <;> omega
              by_cases d : ((1 ≤ j ∧ a = v) ∨ (2 ≤ j ∧ b = v)) ∧ some k0 = some u
              · rw [if_pos d, if_pos (e.mp d)]
              · rw [if_neg d, if_neg (fun z => d (e.mpr z))]
        · rintro σ H4 ⟨t2, cs', rfl, b4, ro4, hk'⟩
          refine ⟨_, _, cs', rfl, bt.trans b4, ro4, fun v => ⟨(hk' v).1, fun u hu => ?_⟩⟩
          rw [(hk' v).2 u hu, step]
          congr 1
          have e : (((1 ≤ [nV a, nV b].length ∧ a = v) ∨ (2 ≤ [nV a, nV b].length ∧ b = v)) ∧ some k0 = some u) ↔ ((a = v ∨ b = v) ∧ some k0 = some u) := by
            refine and_congr_left fun _ => ?_
            show ((1 ≤ 2 ∧ a = v) ∨ (2 ≤ 2 ∧ b = v)) ↔ _
            omega
          by_cases d : (a = v ∨ b = v) ∧ some k0 = some u
          · rw [if_pos d, if_pos (e.mpr d)]
          · rw [if_neg d, if_neg (fun z => d (e.mp z))]
    · rintro σ H3 ⟨y, z, cs, rfl, bt, ro', hk⟩
      refine ⟨_, rfl, q H3 B0 as (bt.same sm2 fr) las (ro'.to fun v hv => ?_)⟩
      obtain ⟨h1, h2⟩ := hk v
      rw [List.take_length, List.take_of_length_le (by omega)] at h2
      rw [list_gd h1 h2]
end
end G3

set_option Elab.async false
set_option linter.all false
set_option maxRecDepth 100000
set_option maxHeartbeats 4000000
namespace G3
open PySem PySem.Spec PyProof.Rows L2
theorem mult_take {es : List Pr} {i : Nat} {e : Pr} (h : es[i]? = some e) {v u : Nat} : mult (es.take (i + 1)) v u = mult (es.take i) v u + ((if e = (v, u) then 1 else 0) + (if e = (u, v) then 1 else 0)) := by
  rw [List.take_add_one, h]
  exact mult_app
/-- a line of the table -/
def tabLine (es : List Pr) (n v : Nat) : List Int := (List.range n).map fun u => (mult es v u : Int)
theorem tabLine_get {es : List Pr} {n v u : Nat} (h : u < n) : ((tabLine es n v).map V.int)[u]? = some (nV (mult es v u)) := by
  unfold tabLine
  rw [List.getElem?_map, List.getElem?_map, List.getElem?_range h]; rfl
theorem tabLine_len {es : List Pr} {n v : Nat} : ((tabLine es n v).map V.int).length = n := by
  unfold tabLine
  rw [List.length_map, List.length_map, List.length_range]
theorem tabLine_set {es es' : List Pr} {n v a : Nat} (h : ∀ u, u < n → mult es' v u = if u = a then mult es v a + 1 else mult es v u) : ((tabLine es n v).map V.int).set a (nV (mult es v a + 1)) = (tabLine es' n v).map V.int := by
  apply List.ext_getElem?
  intro i
  by_cases hi : i < n
  · rw [tabLine_get hi, h i hi]
    by_cases c : a = i
    · subst c
      rw [List.getElem?_set_self (by rw [tabLine_len]; exact hi), if_pos rfl]
    · rw [List.getElem?_set_ne c, tabLine_get hi, if_neg (fun z => c z.symm)]
  · rw [List.getElem?_eq_none (by rw [List.length_set, tabLine_len]; omega), List.getElem?_eq_none (by rw [tabLine_len]; omega)]
theorem rep_zero {n v : Nat} : (List.replicate n [V.int 0]).flatten = (tabLine [] n v).map V.int := by
  apply List.ext_getElem?
  intro i
  have e : ∀ n : Nat, (List.replicate n [V.int 0]).flatten = List.replicate n (V.int 0) := fun n => by
    induction n with
    | zero => rfl
    | succ n ih => rw [List.replicate_succ, List.flatten_cons, ih]; rfl
  rw [e]
  by_cases hi : i < n
  · rw [tabLine_get hi, List.getElem?_replicate, if_pos hi]; rfl
  · rw [List.getElem?_eq_none (by rw [List.length_replicate]; omega), List.getElem?_eq_none (by rw [tabLine_len]; omega)]
section
variable {P : Program} {w : World} {K : PySem.W.Frag} {mg : Str → Option Value} {base : Heap} {C : Addr}
abbrev n_law_pool : List Str := ["script", "cell"]
abbrev p_law_pool : List Str := ["script"]
theorem sc_law_pool : FnScope n_law_pool p_law_pool (defScope s_law_pool) := ⟨rfl, rfl, rfl, by decide +kernel, rfl, by decide +kernel, by decide +kernel⟩
abbrev n_law_below : List Str := ["pool", "many", "found", "turn"]
abbrev p_law_below : List Str := ["pool", "many"]
theorem sc_law_below : FnScope n_law_below p_law_below (defScope s_law_below) := ⟨rfl, rfl, rfl, by decide +kernel, rfl, by decide +kernel, by decide +kernel⟩
abbrev n_law_power : List Str := ["base", "many", "found", "turn"]
abbrev p_law_power : List Str := ["base", "many"]
theorem sc_law_power : FnScope n_law_power p_law_power (defScope s_law_power) := ⟨rfl, rfl, rfl, by decide +kernel, rfl, by decide +kernel, by decide +kernel⟩
abbrev n_law_table : List Str := ["n", "edges", "rows", "one", "other", "place"]
abbrev p_law_table : List Str := ["n", "edges"]
theorem sc_law_table : FnScope n_law_table p_law_table (defScope s_law_table) := ⟨rfl, rfl, rfl, by decide +kernel, rfl, by decide +kernel, by decide +kernel⟩
abbrev n_law_great_row : List Str := ["pool", "n", "figures", "size", "found", "at", "number"]
abbrev p_law_great_row : List Str := ["pool", "n", "figures"]
theorem sc_law_great_row : FnScope n_law_great_row p_law_great_row (defScope s_law_great_row) := ⟨rfl, rfl, rfl, by decide +kernel, rfl, by decide +kernel, by decide +kernel⟩
def spPool0 (K : PySem.W.Frag) : Sp := fun vs H Q _ => ∃ (a : Addr) (ns : List Int), vs = [.ref a] ∧ SqL K H a (ns.map V.int) ∧ ns.length ≤ 10000 ∧
  ∀ (H' : Hp) (p c : Addr) (ms : List Int), Same H H' → H p = none → H' p = some (.lst (poolL c 0 0 17)) → H' c = some (.lst (ms.map V.int)) → (∀ x ∈ ms, (0 : Int) ≤ x) → Q (.ref p) H'
theorem ok_pool0 (D : DefAt K mg "_law_pool" "_law_pool" s_law_pool) (B : Bt mg) : Has P w K mg base CX0 1 "_law_pool" p_law_pool (spPool0 K) := by
  refine has_of D sc_law_pool (fun _ _ _ _ _ _ us hl => match us, hl with | [_], _ => rfl) (fun vs H Q E h => ?_) (fun f cdv A outer s H vs Q E hr h => ?_)
  · obtain ⟨a, ns, rfl, _⟩ := h
    rfl
  · obtain ⟨a, ns, rfl, ha, hl, q⟩ := h
    refine ⟨_, (pss_one (ps_ret (pe_lst (pa_cons (pe_lc (own := [("cell", 1)]) (g := gName 1) (tt := tYes) rfl sc_law_pool.nd (piL (K := K) rfl (pv 0)) (blkOk_by (N := n_law_pool) (sc := defScope s_law_pool) (by decide +kernel)) (fun _ _ _ _ _ => (pg_name (i := 1) sc_law_pool.nd rfl (.inl rfl))) (fun _ _ _ _ _ => pts_nil) (fun _ _ _ _ _ => (pe_ifExp (pt_cmpR op_ge (pv 1) pe_int (nomark _)) (pe_op op_mul pe_int (pv 1)) (pe_op op_sub (pe_op op_mul (pe_un un_neg pe_int) (pv 1)) pe_int)))) (pa_cons pe_int (pa_cons pe_int (pa_cons pe_int pa_nil))))))), ?_⟩
    refine ⟨_, rfl, a, rfl, ⟨_, ha⟩, fun L nL => ?_⟩
    refine lc_list (K := K) (a := a) (xs := ns.map V.int) (fun i H2 => Same H H2 ∧ ∃ ms : List Int, ms.length = i ∧ H2 L = some (.lst (ms.map V.int)) ∧ ∀ x ∈ ms, (0 : Int) ≤ x) ⟨same_upd nL, [], rfl, upd_same, fun _ h => nomatch h⟩ (fun i H2 _ p => p.1.seq ha) ?_ ?_
    · rintro i x H2 hx ⟨sm, ms, lms, hL, h0⟩
      have hi : i < ns.length := by have := (List.getElem?_eq_some_iff.mp hx).1; rwa [List.length_map] at this
      rw [getMap hi] at hx
      obtain rfl := Option.some.inj hx
      have fin : ∀ y : Int, 0 ≤ y → ∃ acc, H2 L = some (.lst acc) ∧ acc.length < sizeLine ∧ (Same H (upd H2 L (.lst (acc ++ [.int y]))) ∧ ∃ ms : List Int, ms.length = i + 1 ∧ (upd H2 L (.lst (acc ++ [.int y]))) L = some (.lst (ms.map V.int)) ∧ ∀ x ∈ ms, (0 : Int) ≤ x) := fun y hy =>
        ⟨_, hL, size_lt (by rw [List.length_map]; omega), same_mut sm nL, ms ++ [y], by rw [List.length_append, lms]; rfl, by rw [upd_same, List.map_append]; rfl, fun x hx => by
          rcases List.mem_append.mp hx with hx | hx
          · exact h0 x hx
          · rw [List.mem_singleton.mp hx]; exact hy⟩
      refine ⟨rfl, yes_ ?_⟩
      refine ⟨_, rfl, _, _, rfl, rfl, _, rfl, ifD (fun h => ?_) (fun h => ?_)⟩
      · exact ⟨_, rfl, _, _, rfl, rfl, .inl ⟨by decide, by decide⟩, fin _ (by omega)⟩
      · refine ⟨_, rfl, _, rfl, _, _, rfl, rfl, .inl ⟨by decide, by decide⟩, _, _, rfl, rfl, fin _ ?_⟩
        show (0 : Int) ≤ -2 * ns[i] - 1
        omega
    · rintro H2 ⟨sm, ms, lms, hL, h0⟩
      refine ⟨by show 4 ≤ sizeLine; decide, fun p np => ?_⟩
      exact q _ p L ms (sm.trans (same_upd np)) (sm.free np) upd_same ((same_upd np) _ _ hL) h0
def spPool (K : PySem.W.Frag) : Sp := fun vs H Q _ => ∃ (a : Addr) (ns : List Int), vs = [.ref a] ∧ SqL K H a (ns.map V.int) ∧ ns.length ≤ 10000 ∧ ∀ (H' : Hp) (p : Addr), Same H H' → PoolAt H' p → Q (.ref p) H'
theorem ok_pool (D : DefAt K mg "_law_pool" "_law_pool" s_law_pool) (B : Bt mg) : Has P w K mg base CX0 1 "_law_pool" p_law_pool (spPool K) := by
  obtain ⟨f, fd, F, m, kp, b⟩ := ok_pool0 (P := P) (w := w) (base := base) D B
  refine ⟨f, fd, ghost_call F (fun vs H Q E h => ?_) (fun vs H Q E hp ok h => ?_), m, kp, b⟩
  · obtain ⟨a, ns, rfl, _⟩ := h
    rfl
  · obtain ⟨a, ns, rfl, ha, hl, q⟩ := h
    refine ⟨H, fun v H2 => ∃ (p c : Addr) (ms : List Int), v = .ref p ∧ Same H H2 ∧ H p = none ∧ H2 p = some (.lst (poolL c 0 0 17)) ∧ H2 c = some (.lst (ms.map V.int)) ∧ ∀ x ∈ ms, (0 : Int) ≤ x, fun _ _ _ => False,
      ⟨fun _ e => e, fun _ _ e => e, fun _ _ _ e => e, fun _ _ e => e⟩, ok, ⟨a, ns, rfl, ha, hl, fun H' p c ms a1 a2 a3 a4 a5 => ⟨p, c, ms, rfl, a1, a2, a3, a4, a5⟩⟩, ?_⟩
    rintro v H2 hp2 ok2 ⟨p, c, ms, rfl, sm, np, h1, h2, h3⟩
    refine ⟨_, Gst.upd h1 (fun xs => lst_tup) (fun o u z => by cases z) (fun ps z => by cases z), pool_close ok2 h1 (by decide) (by decide) (by decide) (by decide), ?_⟩
    have ncp : c ≠ p := fun z => by
      rw [z, h1] at h2
      injection h2 with h2
      injection h2 with h2
      cases ms with
      | nil => cases h2
      | cons m ms => injection h2 with h2 _; cases h2
    exact q _ p (same_mut sm np) ⟨c, ms, upd_same, by rw [upd_ne ncp]; exact h2, h3⟩
def spBelow : Sp := fun vs H Q _ => ∃ (a : Addr) (m : Int), vs = [.ref a, .int m] ∧ PoolAt H a ∧ 0 < m ∧ ∀ r, 0 ≤ r → r < m → Q (.int r) H
theorem ok_below (D : DefAt K mg "_law_below" "_law_below" s_law_below) (B : Bt mg) (h_law_take : Has P w K mg base CX0 2 "_law_take" p_law_take spTake) : Has P w K mg base CX0 3 "_law_below" p_law_below spBelow := by
  refine has_of D sc_law_below (fun _ _ _ _ _ _ us hl => match us, hl with | [_, _], _ => rfl) (fun vs H Q E h => ?_) (fun f cdv A outer s H vs Q E hr h => ?_)
  · obtain ⟨a, m, rfl, _⟩ := h
    rfl
  · obtain ⟨a, m, rfl, hp, hm, q⟩ := h
    refine ⟨_, (pss_cons (ps_set (i := 2) sc_law_below.nd rfl (.inl rfl) pe_int)
  (pss_cons (ps_for PassesOwn.never rfl (pi_range1 rfl B.range (pa_cons pe_int pa_nil)) (pg_name (i := 3) sc_law_below.nd rfl (.inl rfl)) (pss_one (ps_set (i := 2) sc_law_below.nd rfl (.inl rfl) (pe_op op_add (pe_op op_mul (pv 2) (pe_op op_pow pe_int pe_int)) (pe_h h_law_take hr pass0 (pa_cons (pv 0) (pa_cons (pe_op op_pow pe_int pe_int) pa_nil)))))))
  (pss_one (ps_ret (pe_op op_mod (pe_callTy call_int1 rfl B.int (by decide +kernel) (pa_cons (pv 2) pa_nil)) (pv 1)))))), ?_⟩
    refine ⟨5, rfl, by decide, by decide, ?_⟩
    refine for_range (lo := 0) (n := (5 : Int).toNat) (fun i σ H' => ∃ (x : Int) (y : Option V), σ = [some (.ref a), some (.int m), some (.int x), y] ∧ H' = H) ?_ ?_ ?_
    · exact ⟨0, none, rfl, rfl⟩
    · rintro i σ H' hi ⟨x, y, rfl, rfl⟩
      refine ⟨_, rfl, _, _, rfl, rfl, ⟨by decide, by decide, by decide⟩, _, _, rfl, rfl, .inr ⟨by decide, by decide⟩, _, rfl, _, _, rfl, rfl, ⟨by decide, by decide, by decide⟩, a, _, rfl, hp, by decide, by decide, fun r r0 r1 => ?_⟩
      exact ⟨_, _, rfl, rfl, _, _, rfl, rfl⟩
    · rintro σ H' ⟨x, y, rfl, rfl⟩
      exact ⟨_, rfl, .inl ⟨_, rfl, _, rfl, _, _, rfl, rfl, hm, q _ (Int.emod_nonneg _ (by omega)) (Int.emod_lt_of_pos _ hm)⟩⟩
def spPower : Sp := fun vs H Q _ => ∃ (b : Int) (k : Nat), vs = [.int b, nV k] ∧ -(2 ^ 64) < b ∧ b < 2 ^ 64 ∧ k ≤ 100000 ∧ Q (.int (b ^ k)) H
theorem ok_power (D : DefAt K mg "_law_power" "_law_power" s_law_power) (B : Bt mg) : Has P w K mg base CX0 1 "_law_power" p_law_power spPower := by
  refine has_of D sc_law_power (fun _ _ _ _ _ _ us hl => match us, hl with | [_, _], _ => rfl) (fun vs H Q E h => ?_) (fun f cdv A outer s H vs Q E hr h => ?_)
  · obtain ⟨b, k, rfl, _⟩ := h
    rfl
  · obtain ⟨b, k, rfl, b1, b2, hk, q⟩ := h
    refine ⟨_, (pss_cons (ps_set (i := 2) sc_law_power.nd rfl (.inl rfl) pe_int)
  (pss_cons (ps_for PassesOwn.never rfl (pi_range1 rfl B.range (pa_cons (pv 1) pa_nil)) (pg_name (i := 3) sc_law_power.nd rfl (.inl rfl)) (pss_one (ps_set (i := 2) sc_law_power.nd rfl (.inl rfl) (pe_op op_mul (pv 2) (pv 0)))))
  (pss_one (ps_ret (pv 2))))), ?_⟩
    refine ⟨_, rfl, _, rfl, by omega, by omega, ?_⟩
    refine for_range (lo := 0) (n := k) (fun i σ H' => ∃ (y : Option V), σ = [some (.int b), some (nV k), some (.int (b ^ i)), y] ∧ H' = H) ?_ ?_ ?_
    · exact ⟨none, by rw [Int.pow_zero]; rfl, rfl⟩
    · rintro i σ H' hi ⟨y, rfl, rfl⟩
      refine ⟨_, rfl, _, rfl, _, _, rfl, rfl, .inr ⟨b1, b2⟩, ?_⟩
      exact ⟨_, by rw [Int.pow_succ]; rfl, rfl⟩
    · rintro σ H' ⟨y, rfl, rfl⟩
      exact ⟨_, rfl, q⟩
def GS (v : V) : Prop := ∃ x : Int, v = .int x ∧ 0 < x ∧ x < 2 ^ 1000
def spTable : Sp := fun vs H Q _ => ∃ (n : Nat) (l : Addr) (es : List Pr), vs = [nV n, .ref l] ∧ PLst H l es ∧ (∀ e ∈ es, e.1 < e.2 ∧ e.2 < n) ∧ n ≤ 1000 ∧ es.length ≤ 10000 ∧
  ∀ (H' : Hp) (T : Addr) (as : List Addr), Same H H' → H T = none → as.length = n → (∀ a ∈ as, H a = none) → Rows H' T as (fun v => .lst ((tabLine es n v).map V.int)) → Q (.ref T) H'
theorem ok_table (D : DefAt K mg "_law_table" "_law_table" s_law_table) (B : Bt mg) : Has P w K mg base CX0 1 "_law_table" p_law_table spTable := by
  refine has_of D sc_law_table (fun _ _ _ _ _ _ us hl => match us, hl with | [_, _], _ => rfl) (fun vs H Q E h => ?_) (fun f cdv A outer s H vs Q E hr h => ?_)
  · obtain ⟨n, l, es, rfl, _⟩ := h
    rfl
  · obtain ⟨n, l, es, rfl, ⟨vs, hl, hvs⟩, hes, hn, hel, q⟩ := h
    refine ⟨_, (pss_cons (ps_setLc (i := 2) (own := [("place", 5)]) (g := gName 5) (tt := tYes) rfl sc_law_table.nd rfl rfl (sw_true rfl rfl rfl (by decide +kernel)) (pi_range1 rfl B.range (pa_cons (pv 0) pa_nil)) (blkOk_by (N := n_law_table) (sc := defScope s_law_table) (by decide +kernel)) (fun _ _ _ _ _ => (pg_name (i := 5) sc_law_table.nd rfl (.inl rfl))) (fun _ _ _ _ _ => pts_nil) (fun _ _ _ _ _ => (pe_op op_rep (pe_lst (pa_cons pe_int pa_nil)) (pv 0))))
  (pss_cons (ps_for PassesOwn.never rfl (piL (K := K) rfl (pv 1)) (pgT (K := K) (n := 2) rfl rfl (pgs_cons (pg_name (i := 3) sc_law_table.nd rfl (.inl rfl)) (pgs_cons (pg_name (i := 4) sc_law_table.nd rfl (.inl rfl)) pgs_nil))) (pss_cons (ps_asg (pe_op op_add (pe_ix (ixL (K := K) rfl) (pe_ix (ixL (K := K) rfl) (pv 2) (pv 3) (fun _ _ => rfl)) (pv 4) (fun _ _ => rfl)) pe_int) (pg_sub (pe_ix (ixL (K := K) rfl) (pv 2) (pv 3) (fun _ _ => rfl)) (pv 4) set_list))
  (pss_one (ps_asg (pe_op op_add (pe_ix (ixL (K := K) rfl) (pe_ix (ixL (K := K) rfl) (pv 2) (pv 4) (fun _ _ => rfl)) (pv 3) (fun _ _ => rfl)) pe_int) (pg_sub (pe_ix (ixL (K := K) rfl) (pv 2) (pv 4) (fun _ _ => rfl)) (pv 3) set_list)))))
  (pss_one (ps_ret (pv 2))))), ?_⟩
    refine ⟨_, rfl, n, rfl, by omega, by omega, fun B0 nB => ?_⟩
    refine lc_range (lo := 0) (n := n) (fun i H2 => Same H H2 ∧ ∃ as, as.length = i ∧ Rows H2 B0 as (fun v => .lst ((tabLine [] n v).map V.int)) ∧ ∀ a ∈ as, H a = none) ⟨same_upd nB, [], rfl, Rows.nil, fun a h => nomatch h⟩ ?_ ?_
    · rintro i H2 hi ⟨sm, as, las, ro, fr⟩
      refine ⟨rfl, yes_ ?_⟩
      refine ⟨by show 1 ≤ sizeLine; decide, fun z nz => ?_⟩
      have sz : Same H2 (upd H2 z (.lst [.int 0])) := same_upd nz
      refine ⟨_, rfl, z, n, [.int 0], rfl, rfl, upd_same, by omega, by omega, size_le (by show 1 * _ ≤ _; omega), fun a na => ?_⟩
      have e : (List.replicate (n : Int).toNat [V.int 0]).flatten = (tabLine [] n as.length).map V.int := rep_zero
      rw [e]
      have s2 := sm.trans sz
      obtain ⟨p1, p2⟩ := (ro.same sz).push (o := .lst ((tabLine [] n as.length).map V.int)) na rfl
      refine ⟨_, p1, size_lt (by rw [List.length_map]; omega), same_mut (s2.trans (same_upd na)) nB, as ++ [a], by rw [List.length_append, las]; rfl, p2, fun x hx => ?_⟩
      rcases List.mem_append.mp hx with hx | hx
      · exact fr x hx
      · rw [List.mem_singleton.mp hx]; exact s2.free na
    rintro H2 ⟨sm2, as, las, ro, fr⟩
    have notAs : ∀ x o, H x = some o → ¬ x ∈ as := fun x o e z => by
      have := fr x z
      rw [e] at this; cases this
    refine ⟨_, rfl, l, rfl, ⟨_, SqL.of (sm2 _ _ hl)⟩, ?_⟩
    refine for_list (K := K) (a := l) (xs := vs) (fun i σ H' => ∃ (y z t : Option V), σ = [some (nV n), some (.ref l), some (.ref B0), y, z, t] ∧ But (· ∈ as) H2 H' ∧ Rows H' B0 as (fun v => .lst ((tabLine (es.take i) n v).map V.int))) ?_ ?_ ?_ ?_
    · exact ⟨_, _, _, rfl, But.refl, ro⟩
    · rintro i σ H' hi ⟨_, _, _, _, bt, _⟩
      exact SqL.of (bt _ _ (notAs _ _ hl) (sm2 _ _ hl))
    · rintro i x σ H' hx ⟨y, z, t0, rfl, bt, ro'⟩
      have hi : i < es.length := by rw [← hvs.len]; exact (List.getElem?_eq_some_iff.mp hx).1
      obtain ⟨t, e1, e2⟩ := hvs.get hi
      rw [hx] at e1
      obtain rfl := Option.some.inj e1
      obtain ⟨b1, b2⟩ := hes _ (List.getElem_mem hi)
      have hei : es[i]? = some es[i] := List.getElem?_eq_getElem hi
      generalize es[i] = e at e2 b1 b2 hei
      obtain ⟨a, b⟩ := e
      have ht : H' t = some (.tup [nV a, nV b]) := bt _ _ (notAs _ _ e2) (sm2 _ _ e2)
      refine ⟨t, _, rfl, SqT.of ht, rfl, _, _, rfl, _, _, rfl, rfl, ?_⟩
      have b1 : a < b := b1
      have b2 : b < n := b2
      have la : a < as.length := by omega
      have lb : b < as.length := by omega
      have ha := (ro'.at la).2
      -- rows[one][other] + 1
      refine ⟨_, rfl, _, rfl, _, _, a, .ref as[a], rfl, rfl, SqL.of ro'.1, atI_nat (rows_get la), _, rfl, _, _, b, _, rfl, rfl, SqL.of ha, atI_nat (tabLine_get b2), _, _, rfl, rfl, ?_⟩
      refine ⟨_, rfl, _, rfl, _, _, a, .ref as[a], rfl, rfl, SqL.of ro'.1, atI_nat (rows_get la), _, rfl, as[a], _, b, b, rfl, rfl, ha, Evl.ixN_nat (by rw [tabLine_len]; exact b2), ?_⟩
      have nab : ¬ b = a := by omega
      have r1 := ro'.set (o := .lst (((tabLine (es.take i) n a).map V.int).set b (nV (mult (es.take i) a b + 1)))) (List.getElem?_eq_getElem la)
      have m1 : But (· ∈ as) H' (upd H' as[a] (.lst (((tabLine (es.take i) n a).map V.int).set b (nV (mult (es.take i) a b + 1))))) := But.mut (X := (· ∈ as)) (List.getElem_mem la)
      have hb := (r1.at lb).2
      have hb : (upd H' as[a] (.lst (((tabLine (es.take i) n a).map V.int).set b (nV (mult (es.take i) a b + 1))))) as[b] = some (.lst ((tabLine (es.take i) n b).map V.int)) := by
        rw [hb]; show some (if b = a then _ else _) = _; rw [if_neg nab]
      have a1 : a < n := by omega
      refine ⟨_, rfl, _, rfl, _, _, b, .ref as[b], rfl, rfl, SqL.of r1.1, atI_nat (rows_get lb), _, rfl, _, _, a, _, rfl, rfl, SqL.of hb, atI_nat (tabLine_get a1), _, _, rfl, rfl, ?_⟩
      refine ⟨_, rfl, _, rfl, _, _, b, .ref as[b], rfl, rfl, SqL.of r1.1, atI_nat (rows_get lb), _, rfl, as[b], _, a, a, rfl, rfl, hb, Evl.ixN_nat (by rw [tabLine_len]; exact a1), ?_⟩
      refine ⟨_, _, _, rfl, (bt.trans m1).trans (But.mut (X := (· ∈ as)) (List.getElem_mem lb)), ?_⟩
      refine (r1.set (o := .lst (((tabLine (es.take i) n b).map V.int).set a (nV (mult (es.take i) b a + 1)))) (List.getElem?_eq_getElem lb)).to fun v hv => ?_
      show (if v = b then HO.lst (((tabLine (es.take i) n b).map V.int).set a (nV (mult (es.take i) b a + 1))) else if v = a then HO.lst (((tabLine (es.take i) n a).map V.int).set b (nV (mult (es.take i) a b + 1))) else .lst ((tabLine (es.take i) n v).map V.int)) = _
      by_cases c : v = b
      · subst c
        rw [if_pos rfl, tabLine_set (es' := es.take (i + 1)) fun u hu => ?_]
        rw [mult_take hei]
        by_cases d : u = a
        · subst d
          rw [if_pos rfl, if_neg (show ¬ (u, v) = (v, u) from fun z => by cases z; omega), if_pos rfl]
        · rw [if_neg d, if_neg (show ¬ (a, v) = (v, u) from fun z => by cases z; omega), if_neg (show ¬ (a, v) = (u, v) from fun z => by cases z; exact d rfl)]; rfl
      · rw [if_neg c]
        by_cases c2 : v = a
        · subst c2
          rw [if_pos rfl, tabLine_set (es' := es.take (i + 1)) fun u hu => ?_]
          rw [mult_take hei]
          by_cases d : u = b
          · subst d
            rw [if_pos rfl, if_pos rfl, if_neg (show ¬ (v, u) = (u, v) from fun z => by cases z; omega)]
          · rw [if_neg d, if_neg (show ¬ (v, b) = (v, u) from fun z => by cases z; exact d rfl), if_neg (show ¬ (v, b) = (u, v) from fun z => by cases z; omega)]; rfl
        · rw [if_neg c2]
          have : tabLine (es.take (i + 1)) n v = tabLine (es.take i) n v := by
            unfold tabLine
            refine List.map_congr_left fun u _ => ?_
            rw [mult_take hei, if_neg (show ¬ (a, b) = (v, u) from fun z => by cases z; exact c2 rfl), if_neg (show ¬ (a, b) = (u, v) from fun z => by cases z; exact c rfl)]; rfl
          rw [this]
    · rintro σ H' ⟨y, z, t, rfl, bt, ro'⟩
      rw [hvs.len, List.take_length] at ro'
      exact ⟨_, rfl, q _ _ as (bt.same sm2 fr) nB las fr ro'⟩
def spGRow : Sp := fun vs H Q _ => ∃ (a : Addr) (n : Nat), vs = [.ref a, nV n, .int 20] ∧ PoolAt H a ∧ n ≤ 1000 ∧ ∀ (H' : Hp) (L : Addr) (ns : List Int), Same H H' → H' L = some (.lst (ns.map V.int)) → ns.length = n → Q (.ref L) H'
theorem ok_great_row (D : DefAt K mg "_law_great_row" "_law_great_row" s_law_great_row) (B : Bt mg) (h_law_take : Has P w K mg base CX0 2 "_law_take" p_law_take spTake) (h_law_pick : Has P w K mg base CX0 3 "_law_pick" p_law_pick (spPick K))
    (h_law_below : Has P w K mg base CX0 3 "_law_below" p_law_below spBelow) (h_law_power : Has P w K mg base CX0 1 "_law_power" p_law_power spPower) : Has P w K mg base CX0 4 "_law_great_row" p_law_great_row spGRow := by
  refine has_of D sc_law_great_row (fun _ _ _ _ _ _ us hl => match us, hl with | [_, _, _], _ => rfl) (fun vs H Q E h => ?_) (fun f cdv A outer s H vs Q E hr h => ?_)
  · obtain ⟨a, n, rfl, _⟩ := h
    rfl
  · obtain ⟨a, n, rfl, hp, hn, q⟩ := h
    refine ⟨_, (pss_cons (ps_set (i := 3) sc_law_great_row.nd rfl (.inl rfl) (pe_h h_law_power hr pass0 (pa_cons pe_int (pa_cons (pe_h h_law_pick hr pass0 (pa_cons (pv 0) (pa_cons (pe_lst (pa_cons pe_int (pa_cons pe_int (pa_cons pe_int (pa_cons pe_int (pa_cons (pe_op op_sub (pv 2) pe_int) pa_nil)))))) pa_nil))) pa_nil))))
  (pss_cons (ps_set (i := 4) sc_law_great_row.nd rfl (.inl rfl) (pe_lst pa_nil))
  (pss_cons (ps_for PassesOwn.never rfl (pi_range1 rfl B.range (pa_cons (pv 1) pa_nil)) (pg_name (i := 5) sc_law_great_row.nd rfl (.inl rfl)) (pss_cons (ps_set (i := 6) sc_law_great_row.nd rfl (.inl rfl) (pe_op op_sub (pe_h h_law_below hr pass0 (pa_cons (pv 0) (pa_cons (pe_op op_add (pe_op op_mul pe_int (pe_op op_pow pe_int pe_int)) pe_int) pa_nil))) (pe_op op_pow pe_int pe_int)))
  (pss_one (ps_expr (pe_bm PySem.F.plainAttrs_list PySem.F.slot_list_append PySem.F.type_list_append mt_append (pv 4) (pa_cons (pe_op op_add (pe_callTy call_int1 rfl B.int (by decide +kernel) (pa_cons (pe_op op_fdivW (pe_op op_mulW (pv 6) (pv 3)) (pe_op op_pow pe_int pe_int)) pa_nil)) (pe_h h_law_take hr pass0 (pa_cons (pv 0) (pa_cons (pe_op op_pow pe_int pe_int) pa_nil)))) pa_nil))))))
  (pss_one (ps_ret (pv 4)))))), ?_⟩
    refine ⟨_, rfl, _, rfl, _, _, rfl, rfl, by show 5 ≤ sizeLine; decide, fun L1 n1 => ?_⟩
    have s1 : Same H (upd H L1 (.lst [.int 1, .int 2, .int 9, .int 28, .int (20 - 1)])) := same_upd n1
    refine ⟨a, L1, _, rfl, hp.same s1, SqL.of upd_same, by show 0 < 5; decide, by show 5 < 1000000000; decide, fun i v hv => ?_⟩
    obtain ⟨k, rfl, hk⟩ : ∃ k : Nat, v = nV k ∧ k ≤ 28 := by
      have hm := List.mem_of_getElem? hv
      simp only [List.mem_cons, List.not_mem_nil, or_false] at hm
      rcases hm with rfl | rfl | rfl | rfl | rfl
      · exact ⟨1, rfl, by decide⟩
      · exact ⟨2, rfl, by decide⟩
      · exact ⟨9, rfl, by decide⟩
      · exact ⟨28, rfl, by decide⟩
      · exact ⟨19, rfl, by decide⟩
    generalize upd H L1 (.lst [.int 1, .int 2, .int 9, .int 28, .int (20 - 1)]) = H1 at s1 ⊢
    refine ⟨10, k, rfl, by decide, by decide, by omega, ?_⟩
    have hsz : ((10 : Int) ^ k).natAbs < 2 ^ 100 := by
      rw [Int.natAbs_pow]
      exact Nat.lt_of_le_of_lt (Nat.pow_le_pow_right (by decide) hk) (by decide)
    generalize (10 : Int) ^ k = sz at hsz ⊢
    refine ⟨by show 0 ≤ sizeLine; decide, fun F nF => ?_⟩
    have sF : Same H1 (upd H1 F (.lst [])) := same_upd nF
    have hF : (upd H1 F (.lst [])) F = some (.lst []) := upd_same
    have nFH := s1.free nF
    have s2 := s1.trans sF
    generalize upd H1 F (.lst []) = H2 at sF hF s2 ⊢
    refine ⟨_, rfl, _, rfl, by omega, by omega, for_range (lo := 0) (n := n) (fun i σ H' => ∃ (y z : Option V) (ns : List Int), σ = [some (.ref a), some (nV n), some (.int 20), some (.int sz), some (.ref F), y, z] ∧ Same H H' ∧ H' F = some (.lst (ns.map V.int)) ∧ ns.length = i) ?_ ?_ ?_⟩
    · exact ⟨_, _, [], rfl, s2, hF, rfl⟩
    · rintro i σ H' hi ⟨y, z, ns, rfl, sm, hF', ln⟩
      have hp2 := hp.same sm
      have e28 : (10 : Int) ^ (28 : Int).toNat = 10000000000000000000000000000 := by decide +kernel
      have lt28 : ((10 : Int) ^ (28 : Int).toNat).natAbs < 2 ^ 100 := by rw [e28]; decide
      have p28 : (0 : Int) < (10 : Int) ^ (28 : Int).toNat := by rw [e28]; decide
      refine ⟨_, rfl, _, _, rfl, rfl, ⟨by decide, by decide, by decide⟩, _, _, rfl, rfl, .inl ⟨by decide, by decide⟩, _, _, rfl, rfl, a, _, rfl, hp2, by omega, fun r r0 r1 => ?_⟩
      refine ⟨_, _, rfl, rfl, ⟨by decide, by decide, by decide⟩, _, _, rfl, rfl, ?_⟩
      have w2 : (r - (10 : Int) ^ (28 : Int).toNat).natAbs < 2 ^ 200 := by
        have : (2 : Nat) ^ 200 = 1606938044258990275541962092341162602522202993782792835301376 := by decide
        rw [this]
        rw [e28] at r1 ⊢
        omega
      refine ⟨_, rfl, .inl ⟨rfl, _, SqL.of hF'⟩, _, rfl, _, rfl, _, _, rfl, rfl, wide_mul (a := 200) (b := 100) w2 hsz (by decide) (by decide) (by decide), _, _, rfl, rfl, ⟨by decide, by decide, by decide⟩, _, _, rfl, rfl, wide_div p28 lt28 (by decide) (by decide), .inl ⟨_, rfl, ?_⟩⟩
      refine ⟨_, rfl, _, _, rfl, rfl, ⟨by decide, by decide, by decide⟩, a, _, rfl, hp2, by decide, by decide, fun r' r0' r1' => ?_⟩
      refine ⟨_, _, rfl, rfl, _, _, _, rfl, rfl, hF', size_lt (by rw [List.length_map]; omega), ?_⟩
      exact ⟨_, _, ns ++ [_], rfl, same_mut sm nFH, by rw [upd_same, List.map_append]; rfl, by rw [List.length_append, ln]; rfl⟩
    · rintro σ H' ⟨y, z, ns, rfl, sm, hF', ln⟩
      exact ⟨_, rfl, q H' F ns sm hF' ln⟩
end
end G3

set_option Elab.async false
set_option linter.all false
set_option maxRecDepth 100000
set_option maxHeartbeats 4000000
/-! sum(tuple of ints) -/
namespace PySem
section
variable {prog : Program} {w : World} {A : Around} {E : Value → Shared → Prop} {s : Shared} {l : Addr} {xs : Array (Int × Tok)}
theorem g3_sum_tup {Q : Value → Shared → Prop} (hh : A.handled = none) (hl : s.heap.IsTuple l (intItems xs))
    (h : ∀ h' tk t', (∀ b o, s.heap.get? b = some o → h'.get? b = some o) → Q (.int (preSum (numAt xs) xs.size) t') { s with heap := h', toks := tk }) :
    wpAny (model prog w) A (call (.builtin "sum") [.ref l]) Q E s := by
  have hlt : l < s.heap.objs.size := by obtain ⟨_, e, _⟩ := hl; exact Heap.lt_size e
  have hne : l ≠ s.heap.objs.size := Nat.ne_of_lt hlt
  refine call_sum_walkG (wpAny_pyIter_tuple hl ?_)
  refine ⟨_, _, _, _, _, _, numAt xs, rfl, Walks.tuple (A := A.in1) hh _ l hne (intItems xs), ⟨⟨_, Heap.get?_push_size _ rfl, rfl, rfl⟩, hl.push _⟩, fun b hb => ?_, (fun _ _ => intItems_at), fun h' tk t' hk => ?_⟩
  · show b < (s.heap.push _).objs.size
    rw [Heap.size_push]
    rcases List.mem_cons.mp hb with rfl | hb
    · exact Nat.lt_succ_self _
    · rcases List.mem_cons.mp hb with rfl | hb
      · exact Nat.lt_succ_of_lt hlt
      · cases hb
  · have := h h' tk t' fun b o e => hk b o (fun hm => by
      rcases List.mem_cons.mp hm with e1 | hm
      · exact absurd (e1 ▸ Heap.lt_size e) (Nat.lt_irrefl _)
      · cases hm) (Heap.get?_push_of_some _ e)
    simpa [intItems] using this
end
end PySem
namespace L2
open PySem PySem.Spec PyProof.Rows
def rSumT (K : PySem.W.Frag) : List V → Hp → VK → Prop := fun vs H Q => ∃ (a : Addr) (ns : List Int), vs = [V.ref a] ∧ SqT K H a (ns.map V.int) ∧ Q (.int ns.sum) H
theorem cr_sumT {X : Cx} (hc : X.calm = true) : CallR X (.builtin "sum") (rSumT X.K) := by
  intro pins s σ H vs us Q I r h
  obtain ⟨a, ns, rfl, hs, q⟩ := h
  obtain ⟨its, rv, p, _⟩ := I.tuple hs
  rw [Vals.ref1 r]
  have hi := rv.ints
  obtain ⟨xs, e⟩ := hi.allInts.items
  have hn : numsOf (intItems xs).toList = ns := by rw [← e]; exact hi.numsOf
  rw [nums_intItems] at hn
  have hl : s.heap.IsTuple a (intItems xs) := by rw [← e]; exact p
  refine PySem.g3_sum_tup (I.ok.hd hc) hl fun h' tk t' hk => ?_
  rw [preSum_eq, List.take_of_length_le (by simp), hn]
  exact ⟨.int _, H, I.kept hk, ⟨_, rfl⟩, q⟩
end L2

set_option Elab.async false
set_option linter.all false
set_option maxRecDepth 100000
set_option maxHeartbeats 4000000
/-! isinstance(e, C) of a caught error e, where the answer is yes by e's class: it may have a dict. -/
namespace PySem.W
open PySem PySem.Spec PySem.Calls PyProof.Rows
/-- yes, by the type alone -/
theorem g3_yes {K : Frag} {x t c : Value} {H : Heap → Prop} (ty : ∀ (M : Model) (h : Heap), K.In h → H h → Looks M h (typeOf x) t) (e : kitOne K t c = some true) : Answers (fun s => K.In s.heap ∧ H s.heap) x c true := by
  intro dep tk prog w A R s hs
  obtain ⟨h0, g, d, tt, os⟩ := s
  obtain ⟨⟨X, p⟩, hq⟩ := hs
  have LT := ty (model prog w) h0 X p
  unfold Builtin.«isinstance.nested»
  refine wpAny_bind (LT.at ?_)
  by_cases q : (t == c) = true
  · rw [if_pos q]
    first
      | exact wpAny_bind (wpAny_rule (hq tt))
      | exact wpAny_bind (wpAny_rule (wpAny_pure (hq tt)))
  · unfold kitOne at e
    rw [if_neg q] at e
    rw [if_neg q]
    obtain ⟨hty, his, hsub⟩ := kit_cls (M := model prog w) X e
    have LI : Looks (model prog w) h0 (isInstance x c) true := LT.andThen hsub
    refine wpAny_bind (hty.at ?_)
    rw [if_pos (by decide)]
    k_delta "plainIsInstance"
    refine wpAny_bind (wpAny_bind (his.at ?_))
    simp only [Bool.not_true, Bool.false_eq_true, if_false]
    refine wpAny_bind (LI.at ?_)
    first
      | exact wpAny_pure (wpAny_pure (hq tt))
      | (simp only [if_true]; first | exact wpAny_pure (wpAny_pure (hq tt)) | exact wpAny_pure (hq tt) | exact wpAny_bind (wpAny_pure (wpAny_pure (hq tt))))
end PySem.W
namespace L2
open PySem PySem.Spec PyProof.Rows
def rIsT (K : PySem.W.Frag) (cls : Value) (a : Addr) : List V → Hp → VK → Prop := fun xs H Q => ∃ (c : V) (cv : Value), xs = [.ref a, c] ∧ (∀ u, RelV c u → u = cv) ∧ PySem.W.kitOne K cls cv = some true ∧ Q (.bl true) H
theorem call_isT {X : Cx} {K : PySem.W.Frag} (hK : X.K = K) {a : Addr} {oe : Obj} {cls : Value} {d : Option Addr} {pn : List (Addr × Obj)} (hz : Zc cls d oe) : CallR (X.suite a ((a, oe) :: pn)) (.builtin "isinstance") (rIsT K cls a) := by
  subst hK
  intro pins s σ H xs us Q I r h
  obtain ⟨c, cv, rfl, hcv, e, q⟩ := h
  cases r with
  | cons rx rr =>
    cases rr with
    | cons rt rr =>
      cases rr
      cases rx
      have ec := hcv _ rt
      subst ec
      obtain ⟨hget, _⟩ := I.pin (a, oe) (List.mem_append.mpr (.inl List.mem_cons_self))
      have hty : ∀ (M : Model) (h : Heap), X.K.In h → h.get? a = some oe → PySem.W.Looks M h (typeOf (.ref a)) cls := fun M h _ p A Q E t k q => wpAny_typeOf_ref (k _ _ p) (by rw [hz.1]; exact q)
      exact call_isinstance (S := fun _ R s => (X.K.In s.heap ∧ s.heap.get? a = some oe) ∧ ∀ tk, R (.ok (.ret (.bool true))) { s with toks := tk })
        (fun prog w A R s hs => isinstance_outer (PySem.W.g3_yes (H := fun h => h.get? a = some oe) hty e 0 _ prog w A R s hs) (fun z => nomatch z)) ⟨⟨I.kIn, hget⟩, fun tk => ⟨.bl true, H, I.kept (t' := tk) fun _ _ z => z, rfl, q⟩⟩
end L2

set_option Elab.async false
set_option linter.all false
set_option maxRecDepth 100000
set_option maxHeartbeats 4000000
namespace G3
open PySem PySem.Spec PyProof.Rows L2
/-- shut edges at v -/
def shutE (es : List Pr) (im : List (Option Nat)) (v : Nat) : Nat := ((List.range es.length).filter fun k => decide (im.getD k none = none) && (decide ((es.getD k (0, 0)).1 = v) || decide ((es.getD k (0, 0)).2 = v))).length
def dueL (n : Nat) (es : List Pr) (im : List (Option Nat)) (sh : List Nat) : List Int := (List.range n).map fun v => 2 * (((sh.getD v 0 : Nat) : Int) - 1) + ((shutE es im v : Nat) : Int)
theorem tab_sum {n v : Nat} : ∀ {es : List Pr}, (∀ e ∈ es, e.1 < e.2 ∧ e.2 < n) → (tabLine es n v).sum = ((val es v : Nat) : Int) := by
  have ind : ∀ (F : List Nat), F.Nodup → ∀ x, x ∈ F → ∀ c : Int, (F.map fun u => if u = x then c else 0).sum = c := fun F => by
    induction F with
    | nil => intro _ x hx; cases hx
    | cons a F ih =>
      intro hn x hx c
      obtain ⟨h1, h2⟩ := List.nodup_cons.mp hn
      rw [List.map_cons, List.sum_cons]
      have z : ∀ G : List Nat, x ∉ G → (G.map fun u => if u = x then c else 0).sum = 0 := fun G => by
        induction G with
        | nil => intro _; rfl
        | cons b G ih2 =>
          intro hx2
          rw [List.map_cons, List.sum_cons, ih2 (fun h => hx2 (List.mem_cons_of_mem _ h)), if_neg (fun h => hx2 (by rw [h]; exact List.mem_cons_self ..))]
          rfl
      by_cases e : a = x
      · subst e
        rw [if_pos rfl, z F h1, Int.add_zero]
      · rw [if_neg e, ih h2 x ((List.mem_cons.mp hx).resolve_left (fun h => e h.symm)) c, Int.zero_add]
  have add : ∀ (F : List Nat) (f g : Nat → Int), (F.map fun u => f u + g u).sum = (F.map f).sum + (F.map g).sum := fun F f g => by
    induction F with
    | nil => rfl
    | cons a F ih => rw [List.map_cons, List.map_cons, List.map_cons, List.sum_cons, List.sum_cons, List.sum_cons, ih]; omega
  have zero : ∀ (F : List Nat), (F.map fun _ : Nat => (0 : Int)).sum = 0 := fun F => by
    induction F with
    | nil => rfl
    | cons a F ih => rw [List.map_cons, List.sum_cons, ih]; rfl
  intro es
  induction es with
  | nil =>
    intro _
    unfold tabLine
    have : (List.range n).map (fun u => ((mult [] v u : Nat) : Int)) = (List.range n).map fun _ => (0 : Int) := List.map_congr_left fun u _ => rfl
    rw [this, zero]; rfl
  | cons e es ih =>
    intro h
    have ih := ih fun x hx => h x (List.mem_cons_of_mem _ hx)
    obtain ⟨h1, h2⟩ := h e (List.mem_cons_self ..)
    obtain ⟨a, b⟩ := e
    have h1 : a < b := h1
    have h2 : b < n := h2
    have st : (tabLine ((a, b) :: es) n v) = (List.range n).map fun u => ((mult es v u : Nat) : Int) + ((if u = b then (if a = v then 1 else 0) else 0) + (if u = a then (if b = v then 1 else 0) else 0)) := by
      unfold tabLine
      refine List.map_congr_left fun u _ => ?_
      unfold mult
      rw [List.count_cons, List.count_cons]
      have e1 : (((a, b) : Pr) == (v, u)) = decide (a = v ∧ b = u) := by
        by_cases c : a = v ∧ b = u
        · rw [decide_eq_true c, c.1, c.2]; exact beq_self_eq_true _
        · rw [decide_eq_false c]; exact beq_eq_false_iff_ne.mpr fun z => c (by cases z; exact ⟨rfl, rfl⟩)
      have e2 : (((a, b) : Pr) == (u, v)) = decide (a = u ∧ b = v) := by
        by_cases c : a = u ∧ b = v
        · rw [decide_eq_true c, c.1, c.2]; exact beq_self_eq_true _
        · rw [decide_eq_false c]; exact beq_eq_false_iff_ne.mpr fun z => c (by cases z; exact ⟨rfl, rfl⟩)
      rw [e1, e2]
      by_cases c1 : a = v <;> by_cases c2 : b = u <;> by_cases c3 : a = u <;> by_cases c4 : b = v <;> simp_all <;> omega
    rw [st, add, add, ind _ List.nodup_range b (List.mem_range.mpr h2), ind _ List.nodup_range a (List.mem_range.mpr (by omega))]
    have ih2 : ((List.range n).map fun u => ((mult es v u : Nat) : Int)).sum = ((val es v : Nat) : Int) := ih
    rw [ih2]
    unfold val
    rw [List.countP_cons]
    by_cases c1 : a = v
    · have c2 : ¬ b = v := by omega
      simp [c1, c2]
    · by_cases c2 : b = v
      · simp [c1, c2]
      · simp [c1, c2]
end G3

set_option Elab.async false
set_option linter.all false
set_option maxRecDepth 100000
set_option maxHeartbeats 4000000
namespace G3
open PySem PySem.Spec PyProof.Rows L2
theorem xf_RN {prog : Program} {K : PySem.W.Frag} {mg : Str → Option Value} {x : Str} {C fI : Addr} (T : SupRN.SupTxt prog K mg x C fI) : XfC K C := ⟨T.ga, T.gg, T.exC, T.hdC⟩
structure ErrM (K : PySem.W.Frag) (mg : Str → Option Value) (CE CB : Addr) : Prop where
  g : mg "ChipError" = some (.ref CE)
  bb : PySem.W.exmOne K (.ref CB) (.ref CB) = some true
  be : PySem.W.kitOne K (.ref CB) (.ref CE) = some true
theorem ints_eq (l : List Nat) : l.map nV = (l.map fun n : Nat => (n : Int)).map V.int := by rw [List.map_map]; rfl
theorem dp_intsT {K : PySem.W.Frag} {H : Hp} : ∀ l : List Int, DpAll K H (l.map V.int) (l.map PyData.int)
  | [] => .nil
  | a :: l => by rw [List.map_cons, List.map_cons]; exact .cons (.int _) (dp_intsT l)
theorem shaped_intsT (ns : List Int) : SeqAt.shaped (.tuple (ns.map PyData.int)) = true := by
  have h1 : ∀ ns : List Int, PyData.canLayAll0 (ns.map PyData.int) = true := fun ns => by
    induction ns with
    | nil => simp [PyData.canLayAll0]
    | cons a l ih => rw [List.map_cons, PyData.canLayAll0, ih]; simp [PyData.canLay0]
  unfold SeqAt.shaped
  rw [Bool.and_eq_true]
  refine ⟨by rw [PyData.canLay0]; exact h1 ns, decide_eq_true ?_⟩
  have h2 : PyData.depthAll (ns.map PyData.int) = 0 := PySem.W.depth_ints ns
  simp only [PyData.depth, h2]
  omega
theorem eqv_intsT (ns : List Int) : PyData.eqv (.tuple (ns.map PyData.int)) (.tuple (ns.map PyData.int)) = true := by
  have h1 : ∀ ns : List Int, PyData.eqvAll (ns.map PyData.int) (ns.map PyData.int) = true := fun ns => by
    induction ns with
    | nil => simp [PyData.eqvAll]
    | cons a l ih => rw [List.map_cons, PyData.eqvAll, ih]; simp [PyData.eqv]
  rw [PyData.eqv]
  exact h1 ns
section
variable {P : Program} {w : World} {K : PySem.W.Frag} {mg : Str → Option Value} {base : Heap} {C CM CB CE fB : Addr}
abbrev n_law_sheets_of : List Str := ["n", "edges", "goal", "places", "images", "counts", "found", "at", "k"]
abbrev p_law_sheets_of : List Str := ["n", "edges", "goal", "places", "images"]
theorem sc_law_sheets_of : FnScope n_law_sheets_of p_law_sheets_of (defScope s_law_sheets_of) := ⟨rfl, rfl, rfl, by decide +kernel, rfl, by decide +kernel, by decide +kernel⟩
abbrev n_law_fault : List Str := ["first", "second", "e"]
abbrev p_law_fault : List Str := ["first", "second"]
theorem sc_law_fault : FnScope n_law_fault p_law_fault (defScope s_law_fault) := ⟨rfl, rfl, rfl, by decide +kernel, rfl, by decide +kernel, by decide +kernel⟩
def spSO (K : PySem.W.Frag) : Sp := fun vs H Q _ => ∃ (eL gL pL iL : Addr) (n gn : Nat) (es ges : List Pr) (nm : List Nat) (im : List (Option Nat)), vs = [nV n, .ref eL, .ref gL, .ref pL, .ref iL] ∧ PLst H eL es ∧ PLst H gL ges ∧ H pL = some (.lst (nm.map nV)) ∧ H iL = some (.lst (im.map optV)) ∧ Good n es ∧ Good gn ges ∧ 2 ≤ gn ∧ n ≤ 64 ∧ ges.length ≤ 400 ∧ es.length ≤ 400 ∧ nm.length = n ∧ (∀ p ∈ nm, p < gn) ∧ im.length = es.length ∧ (∀ k, some k ∈ im → k < ges.length) ∧
  ∀ (H' : Hp) (L : Addr), Same H H' → H' L = some (.lst ((shOf es im ges nm n).map nV)) → Q (.ref L) H'
theorem ok_sheets_of (D : DefAt K mg "_law_sheets_of" "_law_sheets_of" s_law_sheets_of) (B : Bt mg) (h_law_counts : Has P w K mg base CX0 1 "_law_counts" p_law_counts (spCounts K)) : Has P w K mg base CX0 2 "_law_sheets_of" p_law_sheets_of (spSO K) := by
  refine has_of D sc_law_sheets_of (fun _ _ _ _ _ _ us hl => match us, hl with | [_, _, _, _, _], _ => rfl) (fun vs H Q E h => ?_) (fun f cdv A outer s H vs Q E hr h => ?_)
  · obtain ⟨eL, gL, pL, iL, n, gn, es, ges, nm, im, rfl, _⟩ := h
    rfl
  · obtain ⟨eL, gL, pL, iL, n, gn, es, ges, nm, im, rfl, ⟨us, hL, hus⟩, ⟨ws, hG, hws⟩, hP, hI, good, good2, g2, hn64, hge4, he4, lnm, bnm, lim, bim, q⟩ := h
    refine ⟨_, (pss_cons (ps_set (i := 5) sc_law_sheets_of.nd rfl (.inl rfl) (pe_h h_law_counts hr pass0 (pa_cons (pv 0) (pa_cons (pv 1) (pa_cons (pv 4) (pa_cons (pe_callB (lenK (K := K) rfl) rfl B.len PySem.boot_len (pa_cons (pv 2) pa_nil)) pa_nil))))))
  (pss_cons (ps_set (i := 6) sc_law_sheets_of.nd rfl (.inl rfl) (pe_lst pa_nil))
  (pss_cons (ps_for PassesOwn.never rfl (pi_range1 rfl B.range (pa_cons (pv 0) pa_nil)) (pg_name (i := 7) sc_law_sheets_of.nd rfl (.inr rfl)) (pss_one (ps_expr (pe_bm PySem.F.plainAttrs_list PySem.F.slot_list_append PySem.F.type_list_append mt_append (pv 6) (pa_cons (pe_ix (ixL (K := K) rfl) (pe_ix (ixL (K := K) rfl) (pv 5) (pv 7) (fun _ _ => rfl)) (pe_ix (ixL (K := K) rfl) (pe_lc (own := [("k", 8)]) (g := gName 8) (tt := _) rfl sc_law_sheets_of.nd (pi_range1 rfl B.range (pa_cons (pe_callB (lenK (K := K) rfl) rfl B.len PySem.boot_len (pa_cons (pv 2) pa_nil)) pa_nil)) (blkOk_by (N := n_law_sheets_of) (sc := defScope s_law_sheets_of) (by decide +kernel)) (fun _ _ _ _ _ => (pg_name (i := 8) sc_law_sheets_of.nd rfl (.inl rfl))) (fun _ _ _ _ _ => (pts_one (pt_cmpR (inK (K := K) rfl) (pe_ix (ixL (K := K) rfl) (pv 3) (pv 7) (fun _ _ => rfl)) (pe_ix (ixL (K := K) rfl) (pv 2) (pv 8) (fun _ _ => rfl)) (by rfl)))) (fun _ _ _ _ _ => (pv 8))) pe_int (fun _ _ => rfl)) (fun _ _ => rfl)) pa_nil)))))
  (pss_one (ps_ret (pv 6)))))), ?_⟩
    have lws := hws.len
    refine ⟨_, rfl, _, rfl, _, rfl, _, rfl, _, ges.length, rfl, .inl ⟨_, SqL.of hG, lws.symm⟩, ?_⟩
    refine ⟨eL, iL, n, ges.length, es, im, rfl, ⟨us, hL, hus⟩, .inl (SqL.of hI), lim, good.1, bim, hn64, hge4, he4, fun H1 C0 as s1 las ro1 => ?_⟩
    refine ⟨by show 0 ≤ sizeLine; decide, fun F nF => ?_⟩
    have sF : Same H1 (upd H1 F (.lst [])) := same_upd nF
    have hF : (upd H1 F (.lst [])) F = some (.lst []) := upd_same
    have ro2 := ro1.same sF
    have nFH := s1.free nF
    have nF1 : ∀ x o, H1 x = some o → x ≠ F := fun x o e z => by rw [z, nF] at e; cases e
    have s2 := s1.trans sF
    generalize upd H1 F (.lst []) = H2 at sF hF s2 ro2 ⊢
    refine ⟨_, rfl, _, rfl, by omega, by omega, for_range (lo := 0) (n := n) (fun i σ H' => ∃ (y : Option V), σ = [some (nV n), some (.ref eL), some (.ref gL), some (.ref pL), some (.ref iL), some (.ref C0), some (.ref F), y, none] ∧ Same H H' ∧ Rows H' C0 as (fun v => .lst (((List.range ges.length).map (cntE es im v)).map nV)) ∧ H' F = some (.lst (((List.range i).map fun v => (rowS es im ges nm v).headD 0).map nV))) ?_ ?_ ?_⟩
    · exact ⟨_, rfl, s2, ro2, hF⟩
    · rintro i σ H3 hi ⟨y, rfl, s3, ro3, hF3⟩
      rw [zintn]
      have hp1 : i < nm.length := by omega
      have hpl : nm.getD i 0 < gn := by
        rw [List.getD_eq_getElem?_getD, List.getElem?_eq_getElem hp1]
        exact bnm _ (List.getElem_mem hp1)
      have li : i < as.length := by omega
      refine ⟨_, rfl, .inl ⟨rfl, _, SqL.of hF3⟩, _, rfl, _, rfl, _, _, i, .ref as[i], rfl, rfl, SqL.of ro3.1, atI_nat (rows_get li), ?_⟩
      refine ⟨_, rfl, _, ges.length, rfl, .inl ⟨_, SqL.of (s3 _ _ hG), lws.symm⟩, _, rfl, by omega, by omega, fun M nM => ?_⟩
      refine lc_range (lo := 0) (n := ges.length) (fun j H4 => Same H3 H4 ∧ H4 M = some (.lst (((List.range j).filter fun k => decide ((ges.getD k (0, 0)).1 = nm.getD i 0) || decide ((ges.getD k (0, 0)).2 = nm.getD i 0)).map nV))) ⟨same_upd nM, upd_same⟩ ?_ ?_
      · rintro j H4 hj4 ⟨s4, hM⟩
        rw [zintn]
        obtain ⟨tt, e1, e2⟩ := hws.get hj4
        have ej : ges.getD j (0, 0) = ges[j] := by rw [List.getD_eq_getElem?_getD, List.getElem?_eq_getElem hj4]; rfl
        have ss := s3.trans s4
        refine ⟨rfl, _, rfl, _, rfl, _, _, i, _, rfl, rfl, SqL.of (ss _ _ hP), atI_nat (map_n hp1), ?_⟩
        refine ⟨_, rfl, _, rfl, _, _, j, .ref tt, rfl, rfl, SqL.of (ss _ _ hG), atI_nat e1, tt, _, rfl, .inr (SqT.of (ss _ _ e2)), rfl, rfl, _, rfl, ?_⟩
        have eb : inV (nV (nm.getD i 0)) [nV ges[j].1, nV ges[j].2] = (decide ((ges.getD j (0, 0)).1 = nm.getD i 0) || decide ((ges.getD j (0, 0)).2 = nm.getD i 0)) := by
          rw [ej]
          show (eqV (nV ges[j].1) (nV (nm.getD i 0)) || (eqV (nV ges[j].2) (nV (nm.getD i 0)) || false)) = _
          rw [eqV_nV, eqV_nV, Bool.or_false]
        show ite (inV (nV (nm.getD i 0)) [nV ges[j].1, nV ges[j].2] = true) _ _
        rw [eb]
        have er : (List.range (j + 1)).filter (fun k => decide ((ges.getD k (0, 0)).1 = nm.getD i 0) || decide ((ges.getD k (0, 0)).2 = nm.getD i 0)) = (List.range j).filter (fun k => decide ((ges.getD k (0, 0)).1 = nm.getD i 0) || decide ((ges.getD k (0, 0)).2 = nm.getD i 0)) ++ if (decide ((ges.getD j (0, 0)).1 = nm.getD i 0) || decide ((ges.getD j (0, 0)).2 = nm.getD i 0)) = true then [j] else [] := by
          rw [List.range_succ, List.filter_append]
          congr 1
          rw [List.filter_cons]; rfl
        rw [er]
        cases hb : (decide ((ges.getD j (0, 0)).1 = nm.getD i 0) || decide ((ges.getD j (0, 0)).2 = nm.getD i 0)) with
        | true =>
          refine iteT ⟨_, rfl, _, hM, size_lt ?_, same_mut s4 nM, ?_⟩
          · rw [List.length_map]
            have := List.length_filter_le (fun k => decide ((ges.getD k (0, 0)).1 = nm.getD i 0) || decide ((ges.getD k (0, 0)).2 = nm.getD i 0)) (List.range j)
            rw [List.length_range] at this
            omega
          · rw [upd_same, if_pos rfl, List.map_append]; rfl
        | false =>
          refine iteF ⟨s4, ?_⟩
          rw [if_neg Bool.false_ne_true, List.append_nil]
          exact hM
      rintro H4 ⟨s4, hM⟩
      have hM : H4 M = some (.lst ((wantE ges (nm.getD i 0)).map nV)) := hM
      have lne := want_ne good2 g2 hpl
      obtain ⟨k0, kr, ek⟩ : ∃ k0 kr, wantE ges (nm.getD i 0) = k0 :: kr := by
        cases h : wantE ges (nm.getD i 0) with
        | nil => exact absurd h lne
        | cons a l => exact ⟨a, l, rfl⟩
      have hk0 : k0 < ges.length := by
        have : k0 ∈ wantE ges (nm.getD i 0) := by rw [ek]; exact List.mem_cons_self ..
        unfold wantE at this
        exact List.mem_range.mp (List.mem_filter.mp this).1
      rw [ek] at hM
      have hM : H4 M = some (.lst (nV k0 :: kr.map nV)) := hM
      have hc : (((List.range ges.length).map (cntE es im i)).map nV)[k0]? = some (nV ((rowS es im ges nm i).headD 0)) := by
        unfold rowS
        rw [ek, List.getElem?_map, List.getElem?_map, List.getElem?_range hk0]; rfl
      have ro4 := ro3.same s4
      have hF4 := s4 _ _ hF3
      refine ⟨_, _, 0, nV k0, rfl, rfl, SqL.of hM, atI_nat (j := 0) rfl, _, _, k0, _, rfl, rfl, SqL.of (ro4.at li).2, atI_nat hc, ?_⟩
      refine ⟨_, _, _, rfl, rfl, hF4, size_lt (by rw [List.length_map, List.length_map, List.length_range]; omega), ?_⟩
      refine ⟨_, rfl, same_mut (s3.trans s4) nFH, ?_, ?_⟩
      · refine ro4.but (X := (· = F)) (But.mut (X := (· = F)) rfl) (nF1 _ _ ro1.1) fun x hx => ?_
        obtain ⟨k, hk, e⟩ := List.getElem_of_mem hx
        rw [← e]
        exact nF1 _ _ (ro1.at hk).2
      · rw [upd_same, List.range_succ, List.map_append, List.map_append]; rfl
    · rintro σ H3 ⟨y, rfl, s3, ro3, hF3⟩
      exact ⟨_, rfl, q H3 F s3 hF3⟩
/-! ### _law_fault: the goal of the one is not the graph of the other -/
def spLF (K : PySem.W.Frag) (C CM : Addr) : Sp := fun vs H Q _ => ∃ (x2 g2 gg2 : Addr) (ps2 : List Nat) (im2 : List (Option Nat)) (sh2 : List Nat) (n2 gn : Nat) (es2 ges : List Pr), vs = [.ref x2, .ref x2] ∧ GMap K H CM x2 g2 gg2 ps2 im2 sh2 ∧ Gk H C g2 n2 es2 ∧ Gk H C gg2 gn ges ∧ ps2.length ≤ 1000 ∧ im2.length ≤ 1000 ∧ ¬ (gn = n2 ∧ ges = es2) ∧
  ∀ (H' : Hp) (y : V), Same H H' → Dp K H' y (.tuple [.str "raised", .bool true, .str "goal", .none]) → Q y H'
theorem ok_law_fault (D : DefAt K mg "_law_fault" "_law_fault" s_law_fault) (B : Bt mg) (T : SupRN.SupTxt P K mg "BadGraphMap" CB fB) (EC : ErrM K mg CE CB) (h_map_after : Has P w K mg base (L2.CX P w) 6 "map_after" p_map_after (spMA K C CM CB)) : Has P w K mg base CX0 7 "_law_fault" p_law_fault (spLF K C CM) := by
  refine has_of D sc_law_fault (fun _ _ _ _ _ _ us hl => match us, hl with | [_, _], _ => rfl) (fun vs H Q E h => ?_) (fun f cdv A outer s H vs Q E hr h => ?_)
  · obtain ⟨x2, g2, gg2, ps2, im2, sh2, n2, gn, es2, ges, rfl, _⟩ := h
    rfl
  · obtain ⟨x2, g2, gg2, ps2, im2, sh2, n2, gn, es2, ges, rfl, gm, gk2, gkg, lps, lim, ne, q⟩ := h
    refine ⟨_, (pss_cons (ps_try_mas rfl rfl sc_law_fault.nd (i := 2) rfl rfl takes0 (fun W pn xe tk po => (pss_one (ps_expr (pe_hS h_map_after hr (fun σ => passAt tk σ) (pa_cons (pv 0) (pa_cons (pv 1) pa_nil)))))) (.cons ⟨rfl, by decide, .inl T.gC⟩ (fun a oe cls d pn hz hf => (pss_one (ps_ret (pe_tup (pa_cons pe_str (pa_cons (pe_callB (call_isT (K := K) rfl hz) rfl B.isinstance (by decide +kernel) (pa_cons (pv 2) (pa_cons (pe_glob (v := .ref CE) rfl EC.g rfl) pa_nil))) (pa_cons (pe_xf (xf_RN T) T.no1 hz hf (pv 2)) (pa_cons (pe_xf (xf_RN T) T.no2 hz hf (pv 2)) pa_nil)))))))) .nil))
  (pss_one (ps_ret (pe_tup (pa_cons pe_str pa_nil))))), ?_⟩
    refine ⟨_, rfl, _, rfl, ?_⟩
    refine ⟨x2, x2, g2, gg2, g2, gg2, ps2, ps2, im2, im2, sh2, sh2, n2, gn, n2, gn, es2, ges, es2, ges, rfl, gm, gm, gk2, gkg, gk2, gkg, lps, lim, fun z => absurd z ne, fun _ _ _ z _ => absurd z ne, fun H1 l s1 nl _ hx => ?_⟩
    refine ⟨_, EC.bb, fun _ a na => ?_, fun z => nomatch z⟩
    refine ⟨_, rfl, .ref CE, .ref CE, rfl, fun u h => h, EC.be, ?_⟩
    refine ⟨_, rfl, rfl, rfl, l, _, _, rfl, hx, rfl, ?_⟩
    refine ⟨_, rfl, rfl, rfl, l, _, _, rfl, hx, rfl, ?_⟩
    refine ⟨by show 4 ≤ sizeLine; decide, fun Z nZ => ?_⟩
    exact q _ _ (s1.trans (same_upd nZ)) (.tup (SqT.of upd_same) (.cons (.str "raised") (.cons (.bl true) (.cons (.str "goal") (.cons .non .nil)))))
end
end G3

set_option Elab.async false
set_option linter.all false
set_option maxRecDepth 100000
set_option maxHeartbeats 4000000
namespace G3
open PySem PySem.Spec PyProof.Rows L2
section
variable {P : Program} {w : World} {K : PySem.W.Frag} {mg : Str → Option Value} {base : Heap} {C CM CB CE fB : Addr}
abbrev n_law_is_branched : List Str := ["graphmap", "n", "edges", "goal_n", "goal", "places", "images", "table", "goal_table", "sheets", "shut", "due", "other", "degree", "at", "k"]
abbrev p_law_is_branched : List Str := ["graphmap", "n", "edges", "goal_n", "goal", "places", "images"]
theorem sc_law_is_branched : FnScope n_law_is_branched p_law_is_branched (defScope s_law_is_branched) := ⟨rfl, rfl, rfl, by decide +kernel, rfl, by decide +kernel, by decide +kernel⟩
structure BrOk (n gn : Nat) (es ges : List Pr) (nm : List Nat) (im : List (Option Nat)) (sh : List Nat) : Prop where
  lnm : nm.length = n
  bnm : ∀ p ∈ nm, p < gn
  lim : im.length = es.length
  bim : ∀ k, some k ∈ im → k < ges.length
  esh : sh = shOf es im ges nm n
  bsh : ∀ s ∈ sh, s ≤ 1000
  one : ∀ v, v < n → val es v = sh.getD v 0 * val ges (nm.getD v 0) + shutE es im v
  tot : 2 * ((es.length : Int) - n) = ((degOf im : Nat) : Int) * 2 * ((ges.length : Int) - gn) + (dueL n es im sh).sum
theorem kp_two {H H' : Hp} {C g gg kd kd2 : Addr} {n gn : Nat} {es ges : List Pr} (h1 : Kpt H C g kd n es) (h2 : Kpt H C gg kd2 gn ges) (h1' : Kpt H' C g kd n es) (h2' : Kpt H' C gg kd2 gn ges) (b : But (fun a => a = kd ∨ a = kd2) H H') : Kp H H' := by
  obtain ⟨_, _, ks1, a1, _⟩ := h1
  obtain ⟨_, _, ks2, a2, _⟩ := h2
  obtain ⟨_, _, ks3, a3, _⟩ := h1'
  obtain ⟨_, _, ks4, a4, _⟩ := h2'
  refine ⟨fun x o e n => b x o (fun z => ?_) e, fun x e => ?_⟩
  · rcases z with z | z
    · rw [z, a1] at e; cases e; exact n _ rfl
    · rw [z, a2] at e; cases e; exact n _ rfl
  · by_cases c : x = kd ∨ x = kd2
    · rcases c with c | c
      · rw [c, a3] at e; cases e
      · rw [c, a4] at e; cases e
    · cases hx : H x with
      | none => rfl
      | some o => rw [b x o c hx] at e; cases e
def spBr (K : PySem.W.Frag) (C CM : Addr) : Sp := fun vs H Q _ => ∃ (x eL gL pL iL g gg kd kd2 : Addr) (n gn : Nat) (es ges : List Pr) (nm : List Nat) (im : List (Option Nat)) (sh : List Nat), vs = [.ref x, nV n, .ref eL, nV gn, .ref gL, .ref pL, .ref iL] ∧ GMap K H CM x g gg nm im sh ∧ Kpt H C g kd n es ∧ Kpt H C gg kd2 gn ges ∧ kd ≠ kd2 ∧ PLst H eL es ∧ PLst H gL ges ∧ H pL = some (.lst (nm.map nV)) ∧ H iL = some (.lst (im.map optV)) ∧ 2 ≤ gn ∧ BrOk n gn es ges nm im sh ∧
  ∀ (H' : Hp), But (fun a => a = kd ∨ a = kd2) H H' → Kpt H' C g kd n es → Kpt H' C gg kd2 gn ges → Q (.bl true) H'
theorem ok_branched (D : DefAt K mg "_law_is_branched" "_law_is_branched" s_law_is_branched) (B : Bt mg) (GM : GMapC K CM) (h_law_table : Has P w K mg base CX0 1 "_law_table" p_law_table spTable) (h_law_sheets_of : Has P w K mg base CX0 2 "_law_sheets_of" p_law_sheets_of (spSO K)) (h_branch_row : Has P w K mg base CX0 3 "branch_row" p_branch_row (spBrow K C CM)) (h_law_same : Has P w K mg base CX0 4 "_law_same" p_law_same (spSame K 3)) : Has P w K mg base CX0 5 "_law_is_branched" p_law_is_branched (spBr K C CM) := by
  refine has_of D sc_law_is_branched (fun _ _ _ _ _ _ us hl => match us, hl with | [_, _, _, _, _, _, _], _ => rfl) (fun vs H Q E h => ?_) (fun f cdv A outer s H vs Q E hr h => ?_)
  · obtain ⟨x, eL, gL, pL, iL, g, gg, kd, kd2, n, gn, es, ges, nm, im, sh, rfl, _⟩ := h
    rfl
  · obtain ⟨x, eL, gL, pL, iL, g, gg, kd, kd2, n, gn, es, ges, nm, im, sh, rfl, gm, k1, k2, nek, ⟨us, hL, hus⟩, ⟨ws, hG, hws⟩, hP, hI, g2, bo, q⟩ := h
    refine ⟨_, (pss_cons (ps_asg (pe_tup (pa_cons (pe_h h_law_table hr pass0 (pa_cons (pv 1) (pa_cons (pv 2) pa_nil))) (pa_cons (pe_h h_law_table hr pass0 (pa_cons (pv 3) (pa_cons (pv 4) pa_nil))) pa_nil))) (pgT (K := K) (n := 2) rfl rfl (pgs_cons (pg_name (i := 7) sc_law_is_branched.nd rfl (.inr rfl)) (pgs_cons (pg_name (i := 8) sc_law_is_branched.nd rfl (.inr rfl)) pgs_nil))))
  (pss_cons (ps_set (i := 9) sc_law_is_branched.nd rfl (.inr rfl) (pe_h h_law_sheets_of hr pass0 (pa_cons (pv 1) (pa_cons (pv 2) (pa_cons (pv 4) (pa_cons (pv 5) (pa_cons (pv 6) pa_nil)))))))
  (pss_cons (ps_set (i := 10) sc_law_is_branched.nd rfl (.inr rfl) (pe_lc (own := [("at", 14)]) (g := gName 14) (tt := tYes) rfl sc_law_is_branched.nd (pi_range1 rfl B.range (pa_cons (pv 1) pa_nil)) (blkOk_by (N := n_law_is_branched) (sc := defScope s_law_is_branched) (by decide +kernel)) (fun _ _ _ _ _ => (pg_name (i := 14) sc_law_is_branched.nd rfl (.inr rfl))) (fun _ _ _ _ _ => pts_nil) (fun _ _ _ _ _ => (pe_callB (lenK (K := K) rfl) rfl B.len PySem.boot_len (pa_cons (pe_lc (own := [("k", 15)]) (g := gName 15) (tt := _) rfl sc_law_is_branched.nd (pi_range1 rfl B.range (pa_cons (pe_callB (lenK (K := K) rfl) rfl B.len PySem.boot_len (pa_cons (pv 2) pa_nil)) pa_nil)) (blkOk_by (N := n_law_is_branched) (sc := _) (by rfl)) (fun _ _ _ _ _ => (pg_name (i := 15) sc_law_is_branched.nd rfl (.inl rfl))) (fun _ _ _ _ _ => (pts_one (PW.pt (pw_and (pt_cmpR op_isN (pe_ix (ixL (K := K) rfl) (pv 6) (pv 15) (fun _ _ => rfl)) pe_non (nomark _)) (pw_and1 (pt_cmpR (inK (K := K) rfl) (pv 14) (pe_ix (ixL (K := K) rfl) (pv 2) (pv 15) (fun _ _ => rfl)) (by rfl))))))) (fun _ _ _ _ _ => (pv 15))) pa_nil)))))
  (pss_cons (ps_set (i := 11) sc_law_is_branched.nd rfl (.inl rfl) (pe_callTy (tupK (K := K) rfl) rfl B.tuple (by decide +kernel) (pa_cons (pe_lc (own := [("at", 14)]) (g := gName 14) (tt := tYes) rfl sc_law_is_branched.nd (pi_range1 rfl B.range (pa_cons (pv 1) pa_nil)) (blkOk_by (N := n_law_is_branched) (sc := defScope s_law_is_branched) (by decide +kernel)) (fun _ _ _ _ _ => (pg_name (i := 14) sc_law_is_branched.nd rfl (.inl rfl))) (fun _ _ _ _ _ => pts_nil) (fun _ _ _ _ _ => (pe_op op_add (pe_op op_mul pe_int (pe_op op_sub (pe_ix (ixL (K := K) rfl) (pv 9) (pv 14) (fun _ _ => rfl)) pe_int)) (pe_ix (ixL (K := K) rfl) (pv 10) (pv 14) (fun _ _ => rfl))))) pa_nil)))
  (pss_cons (ps_set (i := 12) sc_law_is_branched.nd rfl (.inl rfl) (pe_callTy (tupK (K := K) rfl) rfl B.tuple (by decide +kernel) (pa_cons (pe_lc (own := [("at", 14)]) (g := gName 14) (tt := tYes) rfl sc_law_is_branched.nd (pi_range1 rfl B.range (pa_cons (pv 1) pa_nil)) (blkOk_by (N := n_law_is_branched) (sc := defScope s_law_is_branched) (by decide +kernel)) (fun _ _ _ _ _ => (pg_name (i := 14) sc_law_is_branched.nd rfl (.inl rfl))) (fun _ _ _ _ _ => pts_nil) (fun _ _ _ _ _ => (pe_op op_sub (pe_op op_sub (pe_callB (sumK (K := K) rfl rfl) rfl B.sum (by decide +kernel) (pa_cons (pe_ix (ixL (K := K) rfl) (pv 7) (pv 14) (fun _ _ => rfl)) pa_nil)) pe_int) (pe_op op_mul (pe_ix (ixL (K := K) rfl) (pv 9) (pv 14) (fun _ _ => rfl)) (pe_op op_sub (pe_callB (sumK (K := K) rfl rfl) rfl B.sum (by decide +kernel) (pa_cons (pe_ix (ixL (K := K) rfl) (pv 8) (pe_ix (ixL (K := K) rfl) (pv 5) (pv 14) (fun _ _ => rfl)) (fun _ _ => rfl)) pa_nil)) pe_int))))) pa_nil)))
  (pss_cons (ps_set (i := 13) sc_law_is_branched.nd rfl (.inl rfl) (pe_callB (lenK (K := K) rfl) rfl B.len PySem.boot_len (pa_cons (pe_lc (own := [("k", 15)]) (g := gName 15) (tt := _) rfl sc_law_is_branched.nd (piL (K := K) rfl (pv 6)) (blkOk_by (N := n_law_is_branched) (sc := defScope s_law_is_branched) (by decide +kernel)) (fun _ _ _ _ _ => (pg_name (i := 15) sc_law_is_branched.nd rfl (.inl rfl))) (fun _ _ _ _ _ => (pts_one (pt_cmpR op_eq (pv 15) pe_int (nomark _)))) (fun _ _ _ _ _ => (pv 15))) pa_nil)))
  (pss_cons (ps_if (PW.pt (pw_or (pt_cmpR (op_neD hr.units) (pv 11) (pv 12) (nomark _)) (pw_or1 (pt_cmpR op_ne (pe_op op_mul pe_int (pe_op op_sub (pe_callB (lenK (K := K) rfl) rfl B.len PySem.boot_len (pa_cons (pv 2) pa_nil)) (pv 1))) (pe_op op_add (pe_op op_mul (pe_op op_mul (pv 13) pe_int) (pe_op op_sub (pe_callB (lenK (K := K) rfl) rfl B.len PySem.boot_len (pa_cons (pv 4) pa_nil)) (pv 3))) (pe_callB (cr_sumT rfl) rfl B.sum (by decide +kernel) (pa_cons (pv 11) pa_nil))) (nomark _))))) (pss_one (ps_ret pe_bl)) pss_nil)
  (pss_one (ps_ret (pe_h h_law_same hr pass0 (pa_cons (pe_tup (pa_cons (pe_h h_branch_row hr pass0 (pa_cons (pv 0) pa_nil)) (pa_cons (fldK (K := K) rfl (pv 0) rfl) (pa_cons (fldK (K := K) rfl (pv 0) rfl) pa_nil)))) (pa_cons (pe_tup (pa_cons (pv 11) (pa_cons (pe_callTy (tupK (K := K) rfl) rfl B.tuple (by decide +kernel) (pa_cons (pv 9) pa_nil)) (pa_cons (pv 13) pa_nil)))) pa_nil)))))))))))), ?_⟩
    obtain ⟨⟨_, good, hn1, hn64, he4, _⟩, _⟩ := id k1
    obtain ⟨⟨_, good2, hm1, hm64, hge4, _⟩, _⟩ := id k2
    obtain ⟨lnm, bnm, lim, bim, esh, bsh, one, tot⟩ := bo
    have lus := hus.len
    have lws := hws.len
    have lsh : sh.length = n := by rw [esh]; unfold shOf; rw [List.length_map, List.length_range]
    -- tables
    refine ⟨_, rfl, _, rfl, n, eL, es, rfl, ⟨us, hL, hus⟩, good.1, by omega, by omega, fun H1 T1 as1 s1 _ las1 _ ro1 => ?_⟩
    refine ⟨_, rfl, _, rfl, gn, gL, ges, rfl, ⟨ws, s1 _ _ hG, hws.same s1⟩, good2.1, by omega, by omega, fun H2 T2 as2 s2 _ las2 _ ro2 => ?_⟩
    have ro1 := ro1.same s2
    refine ⟨by show 2 ≤ sizeLine; decide, fun T0 nT0 => ?_⟩
    have sT0 : Same H2 (upd H2 T0 (.tup [.ref T1, .ref T2])) := same_upd nT0
    have hT0 : (upd H2 T0 (.tup [.ref T1, .ref T2])) T0 = some (.tup [.ref T1, .ref T2]) := upd_same
    have ro1 := ro1.same sT0
    have ro2 := ro2.same sT0
    have s3 := s1.trans (s2.trans sT0)
    generalize upd H2 T0 (.tup [.ref T1, .ref T2]) = H3 at sT0 hT0 ro1 ro2 s3 ⊢
    refine ⟨T0, _, rfl, SqT.of hT0, rfl, _, _, rfl, _, _, rfl, rfl, ?_⟩
    -- sheets
    refine ⟨_, rfl, _, rfl, _, rfl, _, rfl, _, rfl, ?_⟩
    refine ⟨eL, gL, pL, iL, n, gn, es, ges, nm, im, rfl, ⟨us, s3 _ _ hL, hus.same s3⟩, ⟨ws, s3 _ _ hG, hws.same s3⟩, s3 _ _ hP, s3 _ _ hI, good, good2, g2, hn64, hge4, he4, lnm, bnm, lim, bim, fun H4 Sh s34 hSh => ?_⟩
    rw [← esh] at hSh
    have s4 := s3.trans s34
    have ro1 := ro1.same s34
    have ro2 := ro2.same s34
    -- shut
    refine ⟨_, rfl, _, rfl, by omega, by omega, fun U nU => ?_⟩
    refine lc_range (lo := 0) (n := n) (fun i H' => Same H4 H' ∧ H' U = some (.lst (((List.range i).map (shutE es im)).map nV))) ⟨same_upd nU, upd_same⟩ ?_ ?_
    · rintro i H5 hi ⟨s5, hU⟩
      rw [zintn]
      refine ⟨rfl, yes_ ?_⟩
      refine ⟨_, rfl, _, es.length, rfl, .inl ⟨_, SqL.of ((s4.trans s5) _ _ hL), lus.symm⟩, _, rfl, by omega, by omega, fun M nM => ?_⟩
      refine lc_range (lo := 0) (n := es.length) (fun j H6 => Same H5 H6 ∧ H6 M = some (.lst (((List.range j).filter fun k => decide (im.getD k none = none) && (decide ((es.getD k (0, 0)).1 = i) || decide ((es.getD k (0, 0)).2 = i))).map nV))) ⟨same_upd nM, upd_same⟩ ?_ ?_
      · rintro j H6 hj ⟨s6, hM⟩
        rw [zintn]
        obtain ⟨tt, e1, e2⟩ := hus.get hj
        have ej : es.getD j (0, 0) = es[j] := by rw [List.getD_eq_getElem?_getD, List.getElem?_eq_getElem hj]; rfl
        have ss := s4.trans (s5.trans s6)
        have hoj : (im.map optV)[j]? = some (optV (im.getD j none)) := by
          rw [List.getElem?_map, List.getD_eq_getElem?_getD, List.getElem?_eq_getElem (show j < im.length by omega)]; rfl
        have er : (List.range (j + 1)).filter (fun k => decide (im.getD k none = none) && (decide ((es.getD k (0, 0)).1 = i) || decide ((es.getD k (0, 0)).2 = i))) = (List.range j).filter (fun k => decide (im.getD k none = none) && (decide ((es.getD k (0, 0)).1 = i) || decide ((es.getD k (0, 0)).2 = i))) ++ if (decide (im.getD j none = none) && (decide ((es.getD j (0, 0)).1 = i) || decide ((es.getD j (0, 0)).2 = i))) = true then [j] else [] := by
          rw [List.range_succ, List.filter_append]
          congr 1
          rw [List.filter_cons]; rfl
        rw [er]
        refine ⟨rfl, _, rfl, _, rfl, _, _, j, _, rfl, rfl, SqL.of (ss _ _ hI), atI_nat hoj, rfl, _, rfl, ?_⟩
        cases ho : im.getD j none with
        | some k0 =>
          refine iteF ⟨s6, ?_⟩
          rw [if_neg (by rw [decide_eq_false (fun z => by cases z), Bool.false_and]; exact Bool.false_ne_true), List.append_nil]
          exact hM
        | none =>
          refine iteT ?_
          rw [decide_eq_true rfl, Bool.true_and]
          refine ⟨_, rfl, _, rfl, _, rfl, _, _, j, .ref tt, rfl, rfl, SqL.of (ss _ _ hL), atI_nat e1, tt, _, rfl, .inr (SqT.of (ss _ _ e2)), rfl, rfl, _, rfl, ?_⟩
          have eb : inV (nV i) [nV es[j].1, nV es[j].2] = (decide ((es.getD j (0, 0)).1 = i) || decide ((es.getD j (0, 0)).2 = i)) := by
            rw [ej]
            show (eqV (nV es[j].1) (nV i) || (eqV (nV es[j].2) (nV i) || false)) = _
            rw [eqV_nV, eqV_nV, Bool.or_false]
          show ite (inV (nV i) [nV es[j].1, nV es[j].2] = true) _ _
          rw [eb]
          cases hb : (decide ((es.getD j (0, 0)).1 = i) || decide ((es.getD j (0, 0)).2 = i)) with
          | true =>
            refine iteT ⟨_, rfl, _, hM, size_lt ?_, same_mut s6 nM, ?_⟩
            · rw [List.length_map]
              have := List.length_filter_le (fun k => decide (im.getD k none = none) && (decide ((es.getD k (0, 0)).1 = i) || decide ((es.getD k (0, 0)).2 = i))) (List.range j)
              rw [List.length_range] at this
              omega
            · rw [upd_same, if_pos rfl, List.map_append]; rfl
          | false =>
            refine iteF ⟨s6, ?_⟩
            rw [if_neg Bool.false_ne_true, List.append_nil]
            exact hM
      · rintro H6 ⟨s6, hM⟩
        refine ⟨_, shutE es im i, rfl, .inl ⟨_, SqL.of hM, by rw [List.length_map]; rfl⟩, ?_⟩
        refine ⟨_, s6 _ _ hU, size_lt (by rw [List.length_map, List.length_map, List.length_range]; omega), same_mut (s5.trans s6) nU, ?_⟩
        rw [upd_same, List.range_succ, List.map_append, List.map_append]; rfl
    rintro H5 ⟨s45, hU⟩
    have s5 := s4.trans s45
    have ro1 := ro1.same s45
    have ro2 := ro2.same s45
    have hSh5 := s45 _ _ hSh
    have lU : ((List.range n).map (shutE es im)).length = n := by rw [List.length_map, List.length_range]
    have gU : ∀ v, v < n → ((List.range n).map (shutE es im)).getD v 0 = shutE es im v := fun v hv => by
      rw [List.getD_eq_getElem?_getD, List.getElem?_map, List.getElem?_range hv]; rfl
    -- due
    refine ⟨_, rfl, _, rfl, by omega, by omega, fun D0 nD => ?_⟩
    refine lc_range (lo := 0) (n := n) (fun i H' => Same H5 H' ∧ H' D0 = some (.lst (((List.range i).map fun v => 2 * (((sh.getD v 0 : Nat) : Int) - 1) + ((shutE es im v : Nat) : Int)).map V.int))) ⟨same_upd nD, upd_same⟩ ?_ ?_
    · rintro i H6 hi ⟨s6, hD⟩
      rw [zintn]
      refine ⟨rfl, yes_ ?_⟩
      refine ⟨_, rfl, _, rfl, _, _, i, _, rfl, rfl, SqL.of (s6 _ _ hSh5), atI_nat (map_n (by omega)), _, _, rfl, rfl, _, _, rfl, rfl, .inl ⟨by decide, by decide⟩, ?_⟩
      refine ⟨_, rfl, _, rfl, _, _, i, _, rfl, rfl, SqL.of (s6 _ _ hU), atI_nat (map_n (by rw [lU]; exact hi)), _, _, rfl, rfl, ?_⟩
      refine ⟨_, hD, size_lt (by rw [List.length_map, List.length_map, List.length_range]; omega), same_mut s6 nD, ?_⟩
      have eg := gU i hi
      rw [upd_same, List.range_succ, List.map_append, List.map_append]
      show some (HO.lst (_ ++ [V.int (2 * (((sh.getD i 0 : Nat) : Int) - 1) + (((((List.range n).map (shutE es im)).getD i 0 : Nat)) : Int))])) = _
      rw [eg]; rfl
    rintro H6 ⟨s56, hD⟩
    have hD : H6 D0 = some (.lst ((dueL n es im sh).map V.int)) := hD
    refine ⟨D0, _, rfl, .inl ⟨SqL.of hD, fun Du nDu => ?_⟩⟩
    have sDu : Same H6 (upd H6 Du (.tup ((dueL n es im sh).map V.int))) := same_upd nDu
    have hDu : (upd H6 Du (.tup ((dueL n es im sh).map V.int))) Du = some (.tup ((dueL n es im sh).map V.int)) := upd_same
    generalize upd H6 Du (.tup ((dueL n es im sh).map V.int)) = H7 at sDu hDu ⊢
    have s57 := s56.trans sDu
    have s7 := s5.trans s57
    have ro1 := ro1.same s57
    have ro2 := ro2.same s57
    have hSh7 := s57 _ _ hSh5
    -- other
    refine ⟨_, rfl, _, rfl, by omega, by omega, fun O0 nO => ?_⟩
    refine lc_range (lo := 0) (n := n) (fun i H' => Same H7 H' ∧ H' O0 = some (.lst (((List.range i).map fun v => 2 * (((sh.getD v 0 : Nat) : Int) - 1) + ((shutE es im v : Nat) : Int)).map V.int))) ⟨same_upd nO, upd_same⟩ ?_ ?_
    · rintro i H8 hi ⟨s8, hO⟩
      rw [zintn]
      have hpi : i < nm.length := by omega
      have hpl : nm.getD i 0 < gn := by
        rw [List.getD_eq_getElem?_getD, List.getElem?_eq_getElem hpi]
        exact bnm _ (List.getElem_mem hpi)
      have hsi : sh.getD i 0 ≤ 1000 := by
        have hi2 : i < sh.length := by omega
        rw [List.getD_eq_getElem?_getD, List.getElem?_eq_getElem hi2]
        exact bsh _ (List.getElem_mem hi2)
      have li1 : i < as1.length := by omega
      have li2 : nm.getD i 0 < as2.length := by omega
      have ra := ro1.same s8
      have rb := ro2.same s8
      have t1 := tab_sum (v := i) good.1
      have t2 := tab_sum (v := nm.getD i 0) good2.1
      have ov := one i hi
      refine ⟨rfl, yes_ ?_⟩
      refine ⟨_, rfl, _, rfl, _, _, i, .ref as1[i], rfl, rfl, SqL.of ra.1, atI_nat (rows_get li1), as1[i], _, rfl, SqL.of (ra.at li1).2, _, _, rfl, rfl, ?_⟩
      refine ⟨_, rfl, _, rfl, _, _, i, _, rfl, rfl, SqL.of (s8 _ _ hSh7), atI_nat (map_n (by omega)), ?_⟩
      refine ⟨_, rfl, _, rfl, _, rfl, _, _, i, _, rfl, rfl, SqL.of ((s7.trans s8) _ _ hP), atI_nat (map_n hpi), _, _, nm.getD i 0, .ref as2[nm.getD i 0], rfl, rfl, SqL.of rb.1, atI_nat (rows_get li2), as2[nm.getD i 0], _, rfl, SqL.of (rb.at li2).2, _, _, rfl, rfl, ?_⟩
      refine ⟨_, _, rfl, rfl, .inl ⟨by omega, by omega⟩, _, _, rfl, rfl, ?_⟩
      refine ⟨_, hO, size_lt (by rw [List.length_map, List.length_map, List.length_range]; omega), same_mut s8 nO, ?_⟩
      rw [upd_same, List.range_succ, List.map_append, List.map_append]
      show some (HO.lst (_ ++ [V.int ((tabLine es n i).sum - 2 - ((sh.getD i 0 : Nat) : Int) * ((tabLine ges gn (nm.getD i 0)).sum - 2))])) = some (HO.lst (_ ++ [V.int (2 * (((sh.getD i 0 : Nat) : Int) - 1) + ((shutE es im i : Nat) : Int))]))
      have ev : (tabLine es n i).sum - 2 - ((sh.getD i 0 : Nat) : Int) * ((tabLine ges gn (nm.getD i 0)).sum - 2) = 2 * (((sh.getD i 0 : Nat) : Int) - 1) + ((shutE es im i : Nat) : Int) := by
        rw [t1, t2, ov, Int.mul_sub]
        have : (((sh.getD i 0 * val ges (nm.getD i 0) + shutE es im i : Nat)) : Int) = ((sh.getD i 0 : Nat) : Int) * ((val ges (nm.getD i 0) : Nat) : Int) + ((shutE es im i : Nat) : Int) := by
          rw [Int.natCast_add, Int.natCast_mul]
        rw [this]
        omega
      rw [ev]
    rintro H8 ⟨s78, hO⟩
    have hO : H8 O0 = some (.lst ((dueL n es im sh).map V.int)) := hO
    refine ⟨O0, _, rfl, .inl ⟨SqL.of hO, fun Ot nOt => ?_⟩⟩
    have sOt : Same H8 (upd H8 Ot (.tup ((dueL n es im sh).map V.int))) := same_upd nOt
    have hOt : (upd H8 Ot (.tup ((dueL n es im sh).map V.int))) Ot = some (.tup ((dueL n es im sh).map V.int)) := upd_same
    generalize upd H8 Ot (.tup ((dueL n es im sh).map V.int)) = H9 at sOt hOt ⊢
    have s79 := s78.trans sOt
    have s9 := s7.trans s79
    have hDu9 := s79 _ _ hDu
    have hSh9 := s79 _ _ hSh7
    -- degree
    refine ⟨_, rfl, iL, rfl, ⟨_, SqL.of (s9 _ _ hI)⟩, fun X nX => ?_⟩
    refine lc_list (K := K) (a := iL) (xs := im.map optV) (fun i H' => Same H9 H' ∧ H' X = some (.lst (((im.take i).filter fun o => decide (o = some 0)).map optV))) ⟨same_upd nX, upd_same⟩ (fun i H' _ p => SqL.of (p.1 _ _ (s9 _ _ hI))) ?_ ?_
    · rintro i y H10 hy ⟨sm, hX⟩
      rw [List.getElem?_map] at hy
      obtain ⟨o, ho, rfl⟩ := Option.map_eq_some_iff.mp hy
      have hi : i < im.length := (List.getElem?_eq_some_iff.mp ho).1
      have ef := filter_take (f := fun o : Option Nat => decide (o = some 0)) ho
      have hlen : ((((im.take i).filter fun o => decide (o = some 0)).map optV)).length < sizeLine := size_lt (by
        rw [List.length_map]
        have := List.length_filter_le (fun o : Option Nat => decide (o = some 0)) (im.take i)
        rw [List.length_take] at this
        omega)
      refine ⟨rfl, ?_⟩
      cases o with
      | none =>
        refine ⟨_, rfl, rfl, _, rfl, iteF ⟨sm, ?_⟩⟩
        rw [ef, if_neg (by decide), List.append_nil]
        exact hX
      | some k =>
        refine ⟨_, rfl, rfl, _, rfl, ifD (fun e => ?_) (fun ne => ?_)⟩
        · have e : k = 0 := by
            have e : nV k = V.int 0 := e
            injection e with e; omega
          refine ⟨_, rfl, _, hX, hlen, same_mut sm nX, ?_⟩
          rw [upd_same, ef, if_pos (by rw [e]; decide), List.map_append]; rfl
        · refine ⟨sm, ?_⟩
          rw [ef, if_neg (fun z => ne (by
            have z := of_decide_eq_true z
            injection z with z
            rw [z]; rfl)), List.append_nil]
          exact hX
    rintro H10 ⟨s910, hX⟩
    rw [List.length_map, List.take_length] at hX
    refine ⟨_, degOf im, rfl, .inl ⟨_, SqL.of hX, by rw [List.length_map]; exact List.countP_eq_length_filter⟩, ?_⟩
    have s10 := s9.trans s910
    have hDu10 := s910 _ _ hDu9
    have hOt10 := s910 _ _ hOt
    have hSh10 := s910 _ _ hSh9
    have hdeg : degOf im ≤ 400 := by
      have : degOf im ≤ im.length := List.countP_le_length
      omega
    -- the tests
    refine ⟨_, rfl, _, rfl, .tuple ((dueL n es im sh).map PyData.int), .tuple ((dueL n es im sh).map PyData.int), .tup (SqT.of hDu10) (dp_intsT _), .tup (SqT.of hOt10) (dp_intsT _), shaped_intsT _, shaped_intsT _, _, rfl, ?_⟩
    rw [eqv_intsT]
    refine iteF ?_
    refine ⟨_, rfl, _, es.length, rfl, .inl ⟨_, SqL.of (s10 _ _ hL), lus.symm⟩, _, rfl, _, _, rfl, rfl, _, _, rfl, rfl, .inl ⟨by decide, by decide⟩, ?_⟩
    refine ⟨_, rfl, _, _, rfl, rfl, .inr ⟨by decide, by decide⟩, _, rfl, _, ges.length, rfl, .inl ⟨_, SqL.of (s10 _ _ hG), lws.symm⟩, _, rfl, _, _, rfl, rfl, _, _, rfl, rfl, .inl ⟨by omega, by omega⟩, ?_⟩
    refine ⟨_, rfl, Du, _, rfl, SqT.of hDu10, _, _, rfl, rfl, rfl, _, rfl, ifN (fun ne => absurd (congrArg V.int tot) ne) (fun _ => ?_)⟩
    -- the answer
    refine ⟨_, rfl, x, g, gg, kd, kd2, nm, im, sh, n, gn, es, ges, rfl, gm.same s10, k1.same s10, k2.same s10, nek, lnm, lsh, bnm, fun s hs => Nat.le_trans (bsh s hs) (by decide), fun H11 l b11 k1' k2' hl => ?_⟩
    have kp11 : Kp H10 H11 := kp_two (k1.same s10) (k2.same s10) k1' k2' b11
    have gm11 := kp11.gmap (gm.same s10)
    obtain ⟨dx, pT, eT, sT, f1, f2, f3, f4⟩ := gm11
    have hDu11 := kp11.tup hDu10
    have hSh11 := kp11.lst hSh10
    have ebr : brL n es ges nm sh = dueL n es im sh := by
      unfold brL dueL
      refine List.map_congr_left fun v hv => ?_
      have ov := one v (List.mem_range.mp hv)
      rw [ov, Int.mul_sub]
      have : (((sh.getD v 0 * val ges (nm.getD v 0) + shutE es im v : Nat)) : Int) = ((sh.getD v 0 : Nat) : Int) * ((val ges (nm.getD v 0) : Nat) : Int) + ((shutE es im v : Nat) : Int) := by
        rw [Int.natCast_add, Int.natCast_mul]
      rw [this]
      omega
    rw [ebr] at hl
    refine ⟨_, rfl, x, CM, dx, _, _, rfl, f1, GM.cls, GM.sheets, rfl, ?_⟩
    refine ⟨_, rfl, x, CM, dx, _, _, rfl, f1, GM.cls, GM.degree, rfl, ?_⟩
    refine ⟨by show 3 ≤ sizeLine; decide, fun Z nZ => ?_⟩
    have dpn : ∀ (H' : Hp) (l : List Nat), DpAll K H' (l.map nV) (l.map fun p : Nat => PyData.int (p : Int)) := fun H' l => by
      induction l with
      | nil => exact .nil
      | cons a l ih => rw [List.map_cons, List.map_cons]; exact .cons (.int _) ih
    have sZ : Same H11 (upd H11 Z (.tup [.ref l, .ref sT, nV (degOf im)])) := same_upd nZ
    have dZ : Dp K (upd H11 Z (.tup [.ref l, .ref sT, nV (degOf im)])) (.ref Z) (.tuple [.tuple ((dueL n es im sh).map PyData.int), .tuple (sh.map fun p : Nat => PyData.int (p : Int)), .int ((degOf im : Nat) : Int)]) := .tup (SqT.of upd_same) (.cons (.tup (SqT.of (sZ _ _ hl)) (dp_intsT _)) (.cons (.tup (Same.seqT sZ f4) (dpn _ _)) (.cons (.int _) .nil)))
    generalize upd H11 Z (.tup [.ref l, .ref sT, nV (degOf im)]) = H12 at sZ dZ ⊢
    refine ⟨_, rfl, _, rfl, Sh, _, rfl, .inl ⟨SqL.of (sZ _ _ hSh11), fun l2 nl2 => ?_⟩⟩
    have sl2 : Same H12 (upd H12 l2 (.tup (sh.map nV))) := same_upd nl2
    have hl2 : (upd H12 l2 (.tup (sh.map nV))) l2 = some (.tup (sh.map nV)) := upd_same
    generalize upd H12 l2 (.tup (sh.map nV)) = H13 at sl2 hl2 ⊢
    refine ⟨_, rfl, by show 3 ≤ sizeLine; decide, fun Z2 nZ2 => ?_⟩
    have sZ2 : Same H13 (upd H13 Z2 (.tup [.ref Du, .ref l2, nV (degOf im)])) := same_upd nZ2
    have dZ2 : Dp K (upd H13 Z2 (.tup [.ref Du, .ref l2, nV (degOf im)])) (.ref Z2) (.tuple [.tuple ((dueL n es im sh).map PyData.int), .tuple (sh.map fun p : Nat => PyData.int (p : Int)), .int ((degOf im : Nat) : Int)]) := .tup (SqT.of upd_same) (.cons (.tup (SqT.of (sZ2 _ _ (sl2 _ _ (sZ _ _ hDu11)))) (dp_intsT _)) (.cons (.tup (SqT.of (sZ2 _ _ hl2)) (dpn _ _)) (.cons (.int _) .nil)))
    generalize upd H13 Z2 (.tup [.ref Du, .ref l2, nV (degOf im)]) = H14 at sZ2 dZ2 ⊢
    have ld : (dueL n es im sh).length = n := by unfold dueL; rw [List.length_map, List.length_range]
    have fit : Fit 3 (.tuple [.tuple ((dueL n es im sh).map PyData.int), .tuple (sh.map fun p : Nat => PyData.int (p : Int)), .int ((degOf im : Nat) : Int)]) := by
      refine ⟨by show 3 ≤ 100000; decide, fun d hd => ?_⟩
      simp only [List.mem_cons, List.not_mem_nil, or_false] at hd
      rcases hd with rfl | rfl | rfl
      · exact ⟨by rw [List.length_map, ld]; omega, fit_ints⟩
      · exact ⟨by rw [List.length_map, lsh]; omega, fun d hd => by
          obtain ⟨o, _, rfl⟩ := List.mem_map.mp hd
          exact True.intro⟩
      · exact True.intro
    refine ⟨.ref Z, .ref Z2, _, rfl, Dp.same (sl2.trans sZ2) dZ, dZ2, fit, fun H15 s15 => ?_⟩
    have s1115 := sZ.trans (sl2.trans (sZ2.trans s15))
    exact q H15 ((Same.but s10).trans (b11.trans (Same.but s1115))) (k1'.same s1115) (k2'.same s1115)
end
end G3

set_option Elab.async false
set_option linter.all false
set_option maxRecDepth 100000
set_option maxHeartbeats 1000000
namespace G3
open PySem PySem.Spec PyProof.Rows L2
/-! ## plain: sums over numbers -/
def sumI (n : Nat) (f : Nat → Int) : Int := ((List.range n).map f).sum
theorem sumI_succ {n : Nat} {f : Nat → Int} : sumI (n + 1) f = sumI n f + f n := by
  unfold sumI
  rw [List.range_succ, List.map_append, List.sum_append]
  show _ + (f n + 0) = _
  omega
theorem sumI_congr {n : Nat} {f g : Nat → Int} (h : ∀ i, i < n → f i = g i) : sumI n f = sumI n g := by
  unfold sumI
  rw [List.map_congr_left fun i hi => h i (List.mem_range.mp hi)]
theorem sumI_z {n : Nat} : sumI n (fun _ => 0) = 0 := by
  induction n with
  | zero => rfl
  | succ n ih => rw [sumI_succ, ih]; rfl
theorem sumI_zero {n : Nat} {f : Nat → Int} (h : ∀ i, i < n → f i = 0) : sumI n f = 0 := (sumI_congr h).trans sumI_z
theorem sumI_add {n : Nat} {f g : Nat → Int} : sumI n (fun i => f i + g i) = sumI n f + sumI n g := by
  induction n with
  | zero => rfl
  | succ n ih => rw [sumI_succ, sumI_succ, sumI_succ, ih]; omega
theorem sumI_mul {n : Nat} {f : Nat → Int} {c : Int} : sumI n (fun i => c * f i) = c * sumI n f := by
  induction n with
  | zero => show (0 : Int) = c * 0; rw [Int.mul_zero]
  | succ n ih => rw [sumI_succ, sumI_succ, ih, Int.mul_add]
theorem sumI_one {n : Nat} {c : Int} : sumI n (fun _ => c) = (n : Int) * c := by
  induction n with
  | zero => show (0 : Int) = ((0 : Nat) : Int) * c; rw [Int.natCast_zero, Int.zero_mul]
  | succ n ih =>
    have : (((n + 1 : Nat)) : Int) = (n : Int) + 1 := by omega
    rw [sumI_succ, ih, this, Int.add_mul, Int.one_mul]
theorem sumI_delta {n v : Nat} {f : Nat → Int} (h : v < n) : sumI n (fun u => if u = v then f u else 0) = f v := by
  induction n with
  | zero => omega
  | succ n ih =>
    rw [sumI_succ]
    by_cases c : v = n
    · subst c
      rw [if_pos rfl, sumI_zero fun i hi => if_neg (by omega), Int.zero_add]
    · rw [if_neg (fun z => c z.symm), ih (by omega), Int.add_zero]
theorem sumI_swap {a b : Nat} {f : Nat → Nat → Int} : sumI a (fun i => sumI b fun j => f i j) = sumI b fun j => sumI a fun i => f i j := by
  induction a with
  | zero => exact (sumI_zero fun _ _ => rfl).symm
  | succ a ih =>
    rw [sumI_succ, ih, ← sumI_add]
    exact sumI_congr fun j _ => sumI_succ.symm
theorem sumI_list {α : Type} {l : List α} {d : α} {f : α → Int} : sumI l.length (fun i => f (l.getD i d)) = (l.map f).sum := by
  unfold sumI
  congr 1
  refine List.ext_getElem (by rw [List.length_map, List.length_map, List.length_range]) fun i h1 h2 => ?_
  rw [List.getElem_map, List.getElem_map, List.getElem_range]
  rw [List.length_map] at h2
  rw [List.getD_eq_getElem?_getD, List.getElem?_eq_getElem h2]; rfl
theorem cnt_list {α : Type} {p : α → Bool} : ∀ l : List α, ((l.countP p : Nat) : Int) = (l.map fun x => if p x = true then (1 : Int) else 0).sum
  | [] => rfl
  | x :: l => by
    rw [List.countP_cons, List.map_cons, List.sum_cons, ← cnt_list l]
    split <;> omega
theorem cnt_sumI {α : Type} {p : α → Bool} {d : α} {l : List α} : ((l.countP p : Nat) : Int) = sumI l.length (fun i => if p (l.getD i d) = true then 1 else 0) := by
  rw [cnt_list, sumI_list (f := fun x => if p x = true then (1 : Int) else 0)]
theorem fil_sumI {n : Nat} {p : Nat → Bool} {f : Nat → Nat} : (((((List.range n).filter p).map f).sum : Nat) : Int) = sumI n (fun i => if p i = true then ((f i : Nat) : Int) else 0) := by
  induction n with
  | zero => rfl
  | succ n ih =>
    rw [List.range_succ, List.filter_append, List.map_append, List.sum_append, sumI_succ, ← ih]
    by_cases c : p n = true
    · have : List.filter p [n] = [n] := by rw [List.filter_cons, if_pos c]; rfl
      rw [this, if_pos c]
      show (((_ + (f n + 0)) : Nat) : Int) = _
      omega
    · have : List.filter p [n] = [] := by rw [List.filter_cons, if_neg c]; rfl
      rw [this, if_neg c]
      show (((_ + 0) : Nat) : Int) = _
      omega
theorem len_sumI {n : Nat} {p : Nat → Bool} : ((((List.range n).filter p).length : Nat) : Int) = sumI n (fun i => if p i = true then 1 else 0) := by
  have h := fil_sumI (n := n) (p := p) (f := fun _ => 1)
  have e : ∀ l : List Nat, (l.map fun _ => 1).sum = l.length := fun l => by
    induction l with
    | nil => rfl
    | cons a l ih => rw [List.map_cons, List.sum_cons, ih, List.length_cons]; omega
  rw [e] at h
  rw [h]; rfl
/-! ### maps by their sums -/
abbrev eD (es : List Pr) (i : Nat) : Pr := es.getD i (0, 0)
abbrev oD (im : List (Option Nat)) (i : Nat) : Option Nat := im.getD i none
def Tch (e : Pr) (v : Nat) : Prop := e.1 = v ∨ e.2 = v
instance (e : Pr) (v : Nat) : Decidable (Tch e v) := inferInstanceAs (Decidable (_ ∨ _))
theorem tch_b {e : Pr} {v : Nat} : (decide (e.1 = v) || decide (e.2 = v)) = decide (Tch e v) := by
  unfold Tch
  by_cases h1 : e.1 = v <;> by_cases h2 : e.2 = v <;> simp [h1, h2]
theorem val_sumI {es : List Pr} {v : Nat} : ((val es v : Nat) : Int) = sumI es.length fun i => if Tch (eD es i) v then 1 else 0 := by
  unfold val
  rw [cnt_sumI (d := (0, 0))]
  refine sumI_congr fun i _ => ?_
  rw [tch_b]
  by_cases c : Tch (eD es i) v
  · rw [if_pos c, if_pos (decide_eq_true c)]
  · rw [if_neg c, if_neg (by rw [decide_eq_false c]; exact Bool.false_ne_true)]
theorem zip_getD {es : List Pr} {im : List (Option Nat)} (h : im.length = es.length) {i : Nat} (hi : i < es.length) : (es.zip im).getD i ((0, 0), none) = (eD es i, oD im i) := by
  unfold eD oD
  have h2 : i < im.length := by omega
  rw [List.getD_eq_getElem?_getD, List.getD_eq_getElem?_getD, List.getD_eq_getElem?_getD, List.getElem?_eq_getElem (show i < (es.zip im).length by rw [List.length_zip]; omega), List.getElem?_eq_getElem hi, List.getElem?_eq_getElem h2, List.getElem_zip]; rfl
theorem cntE_sumI {es : List Pr} {im : List (Option Nat)} {v k : Nat} (h : im.length = es.length) : ((cntE es im v k : Nat) : Int) = sumI es.length fun i => if Tch (eD es i) v ∧ oD im i = some k then 1 else 0 := by
  unfold cntE
  rw [cnt_sumI (d := ((0, 0), none)), List.length_zip, h, Nat.min_self]
  refine sumI_congr fun i hi => ?_
  rw [zip_getD h hi]
  show (if ((decide ((eD es i).1 = v) || decide ((eD es i).2 = v)) && decide (oD im i = some k)) = true then (1 : Int) else 0) = _
  rw [tch_b]
  by_cases c : Tch (eD es i) v ∧ oD im i = some k
  · rw [if_pos c, if_pos (by rw [decide_eq_true c.1, decide_eq_true c.2]; rfl)]
  · rw [if_neg c, if_neg (fun z => c (by rw [Bool.and_eq_true, decide_eq_true_iff, decide_eq_true_iff] at z; exact z))]
theorem shut_sumI {es : List Pr} {im : List (Option Nat)} {v : Nat} : ((shutE es im v : Nat) : Int) = sumI es.length fun i => if oD im i = none ∧ Tch (eD es i) v then 1 else 0 := by
  unfold shutE
  rw [len_sumI]
  refine sumI_congr fun i _ => ?_
  rw [tch_b]
  by_cases c : oD im i = none ∧ Tch (eD es i) v
  · rw [if_pos c, if_pos (by rw [decide_eq_true c.1, decide_eq_true c.2]; rfl)]
  · rw [if_neg c, if_neg (fun z => c (by rw [Bool.and_eq_true, decide_eq_true_iff, decide_eq_true_iff] at z; exact z))]
theorem deg_sumI {im : List (Option Nat)} {k : Nat} : ((im.countP (fun o => decide (o = some k)) : Nat) : Int) = sumI im.length fun i => if oD im i = some k then 1 else 0 := by
  rw [cnt_sumI (d := none)]
  refine sumI_congr fun i _ => ?_
  by_cases c : oD im i = some k
  · rw [if_pos c, if_pos (decide_eq_true c)]
  · rw [if_neg c, if_neg (by rw [decide_eq_false c]; exact Bool.false_ne_true)]
end G3

set_option Elab.async false
set_option linter.all false
set_option maxRecDepth 100000
set_option maxHeartbeats 1000000
namespace G3
open PySem PySem.Spec PyProof.Rows L2
/-! ## plain: what the law asks of its own map -/
theorem lex_uniq : ∀ {as bs : List Pr}, as.Perm bs → Lex as → Lex bs → as = bs
  | [], bs, h, _, _ => (List.nil_perm.mp h).symm
  | a :: as, [], h, _, _ => absurd h.length_eq (by simp)
  | a :: as, b :: bs, h, ha, hb => by
    have ha' := List.pairwise_cons.mp ha
    have hb' := List.pairwise_cons.mp hb
    have e : a = b := by
      have h1 : a ∈ b :: bs := h.mem_iff.mp (List.mem_cons_self ..)
      have h2 : b ∈ a :: as := h.mem_iff.mpr (List.mem_cons_self ..)
      rcases List.mem_cons.mp h1 with z | z
      · exact z
      rcases List.mem_cons.mp h2 with y | y
      · exact y.symm
      have k1 := hb'.1 a z
      have k2 := ha'.1 b y
      obtain ⟨a1, a2⟩ := a
      obtain ⟨b1, b2⟩ := b
      have k1 : b1 < a1 ∨ b1 = a1 ∧ b2 ≤ a2 := k1
      have k2 : a1 < b1 ∨ a1 = b1 ∧ a2 ≤ b2 := k2
      rw [Prod.mk.injEq]
      omega
    subst e
    rw [lex_uniq h.cons_inv ha'.2 hb'.2]
theorem new_sameO {H : Hp} {C x dx : Addr} (nx : H x = none) (ndx : H dx = none) : Same H (upd (upd H dx (.own x)) x (.ins C dx [])) := fun b o e => by
  rw [upd_ne (ne_of_none e nx), upd_ne (ne_of_none e ndx)]; exact e
theorem pl_of (nm : List Nat) : plOf (.list (nm.map fun p : Nat => PyData.int (p : Int))) = nm := by
  show (nm.map fun p : Nat => PyData.int (p : Int)).map natD = nm
  rw [List.map_map]
  refine (List.map_congr_left fun p _ => ?_).trans (List.map_id nm)
  rfl
theorem im_of (im : List (Option Nat)) : imOf (.list (im.map optP)) = im := by
  show (im.map optP).map optD = im
  rw [List.map_map]
  refine (List.map_congr_left fun o _ => ?_).trans (List.map_id _)
  cases o <;> rfl
section
variable {n N d : Nat} {goal es : List Pr} {nm : List Nat} {im : List (Option Nat)}
theorem map_N (h : MapOk n goal d N es nm im) (hd : 1 ≤ d) (hg : 1 ≤ goal.length) : 1 ≤ es.length ∧ 1 ≤ N := by
  have h0 := h.deg 0 hg
  have : 0 < im.length := by
    cases him : im with
    | nil => rw [him] at h0; have : 0 = d := h0; omega
    | cons a l => exact Nat.succ_pos _
  have he : 1 ≤ es.length := by have := h.lim; omega
  refine ⟨he, ?_⟩
  have := h.good.1 _ (List.getElem_mem (show 0 < es.length by omega))
  omega
theorem map_faultP (h : MapOk n goal d N es nm im) : faultP N n (.list (nm.map fun p : Nat => PyData.int (p : Int))) = none := by
  unfold faultP
  show (if (nm.map fun p : Nat => PyData.int (p : Int)).length = N then _ else _) = none
  rw [if_pos (by rw [List.length_map]; exact h.lnm), fbad_none]
  · rfl
  intro j hj
  have hj2 : j < nm.length := by rw [h.lnm]; exact hj
  rw [List.getD_eq_getElem?_getD, List.getElem?_map, List.getElem?_eq_getElem hj2]
  show (decide ((0 : Int) ≤ (nm[j] : Int)) && decide ((nm[j] : Int) < (n : Int))) = true
  have := h.bnm _ (List.getElem_mem hj2)
  rw [decide_eq_true (by omega), decide_eq_true (by omega)]; rfl
theorem map_faultE (h : MapOk n goal d N es nm im) (hlex : ∀ e ∈ goal, e.1 < e.2) : faultE es goal nm (.list (im.map optP)) = none := by
  unfold faultE
  show (if (im.map optP).length = es.length then _ else _) = none
  rw [if_pos (by rw [List.length_map]; exact h.lim), fbad_none]
  · rfl
  intro j hj
  have ej : es.getD j (0, 0) = es[j] := by rw [List.getD_eq_getElem?_getD, List.getElem?_eq_getElem hj]; rfl
  rw [ej, List.getD_eq_getElem?_getD, List.getElem?_map]
  rcases h.side j es[j] (List.getElem?_eq_getElem hj) with ⟨h1, h2⟩ | ⟨k, hk, h1, h2, h3⟩
  · rw [h2]
    unfold isOv
    have h1 : nm.getD es[j].1 0 = nm.getD es[j].2 0 := h1
    have e : (sidesOf nm es[j]).1 = (sidesOf nm es[j]).2 := by
      show min (nm.getD es[j].1 0) (nm.getD es[j].2 0) = max (nm.getD es[j].1 0) (nm.getD es[j].2 0)
      omega
    rw [if_pos e]; rfl
  · rw [h1]
    unfold isOv
    have ek : gE goal k = goal[k] := by unfold gE; rw [List.getD_eq_getElem?_getD, List.getElem?_eq_getElem hk]; rfl
    have hlt := hlex _ (List.getElem_mem hk)
    have ne : ¬ (sidesOf nm es[j]).1 = (sidesOf nm es[j]).2 := by rw [h3, ek]; omega
    rw [if_neg ne]
    show (decide ((0 : Int) ≤ (k : Int)) && (decide ((k : Int) < (goal.length : Int)) && decide (goal.getD ((k : Int)).toNat (0, 0) = sidesOf nm es[j]))) = true
    rw [decide_eq_true (by omega), decide_eq_true (by omega), Int.toNat_natCast, decide_eq_true (show goal.getD k (0, 0) = sidesOf nm es[j] from h3.symm)]; rfl
theorem row_all (h : MapOk n goal d N es nm im) {m : Nat → Nat} (hm : ∀ p, p < N → ∀ k, k < goal.length → ((gE goal k).1 = gd nm p ∨ (gE goal k).2 = gd nm p) → cntE es im p k = m p) {p : Nat} (hp : p < N) : ∀ x ∈ rowS es im goal nm p, x = m p := fun x hx => by
  unfold rowS at hx
  obtain ⟨k, hk, rfl⟩ := List.mem_map.mp hx
  unfold wantE at hk
  obtain ⟨hk1, hk2⟩ := List.mem_filter.mp hk
  rw [Bool.or_eq_true, decide_eq_true_iff, decide_eq_true_iff] at hk2
  exact hm p hp k (List.mem_range.mp hk1) hk2
theorem row_ne (h : MapOk n goal d N es nm im) (good : Good n goal) (hn : 2 ≤ n) {p : Nat} (hp : p < N) : rowS es im goal nm p ≠ [] := fun z => by
  have hpl : nm.getD p 0 < n := by
    have hp2 : p < nm.length := by rw [h.lnm]; exact hp
    exact h.bnm _ (gd_mem hp2)
  exact want_ne good hn hpl (List.map_eq_nil_iff.mp z)
theorem map_faultS (h : MapOk n goal d N es nm im) : faultS es im goal nm N = none := by
  obtain ⟨m, hm, _⟩ := h.sh
  unfold faultS
  rw [fbad_none]
  · rfl
  intro p hp
  have ha := row_all h hm hp
  unfold evB
  rw [List.all_eq_true]
  intro x hx
  have hh : (rowS es im goal nm p).headD 0 ∈ rowS es im goal nm p := by
    cases hr : rowS es im goal nm p with
    | nil => rw [hr] at hx; cases hx
    | cons a l => exact List.mem_cons_self ..
  rw [ha x hx, ha _ hh]
  exact decide_eq_true rfl
theorem map_fault (h : MapOk n goal d N es nm im) (hlex : ∀ e ∈ goal, e.1 < e.2) (hn : 2 ≤ n) : faultM N es n goal (.list (nm.map fun p : Nat => PyData.int (p : Int))) (.list (im.map optP)) = none := by
  unfold faultM
  rw [if_neg (by omega), map_faultP h, pl_of]
  simp only [map_faultE h hlex, im_of, map_faultS h]
  rfl
theorem map_total (h : MapOk n goal d N es nm im) (good : Good n goal) (hn : 2 ≤ n) : ∀ q, q < n → (((List.range N).filter fun p => decide (gd nm p = q)).map fun p => gd (shOf es im goal nm N) p).sum = d := fun q hq => by
  obtain ⟨m, hm, hs⟩ := h.sh
  rw [← hs q hq]
  congr 1
  refine List.map_congr_left fun p hp => ?_
  have hp := List.mem_range.mp (List.mem_filter.mp hp).1
  have ha := row_all h hm hp
  have hne := row_ne h good hn hp
  show (shOf es im goal nm N).getD p 0 = m p
  unfold shOf
  rw [List.getD_eq_getElem?_getD, List.getElem?_map, List.getElem?_range hp]
  show (rowS es im goal nm p).headD 0 = m p
  refine ha _ ?_
  cases hr : rowS es im goal nm p with
  | nil => exact absurd hr hne
  | cons a l => exact List.mem_cons_self ..
end
end G3

set_option Elab.async false
set_option linter.all false
set_option maxRecDepth 100000
set_option maxHeartbeats 1000000
namespace G3
open PySem PySem.Spec PyProof.Rows L2
theorem ite_and2 {A B : Prop} [Decidable A] [Decidable B] : (if A ∧ B then (1 : Int) else 0) = if B then (if A then 1 else 0) else 0 := by
  by_cases a : A <;> by_cases b : B <;> simp [a, b]
theorem ite_three {A B : Prop} [Decidable A] [Decidable B] : (if B then (1 : Int) else 0) = (if A ∧ B then 1 else 0) + if A then 0 else (if B then 1 else 0) := by
  by_cases a : A <;> by_cases b : B <;> simp [a, b]
theorem ite_mul2 {A B : Prop} [Decidable A] [Decidable B] {x : Int} : (if A then (if B then x else 0) else 0) = x * if B ∧ A then 1 else 0 := by
  by_cases a : A <;> by_cases b : B <;> simp [a, b]
theorem sumI_delta2 {n v : Nat} {c : Int} (h : v < n) : sumI n (fun u => if v = u then c else 0) = c := by
  rw [sumI_congr (g := fun u => if u = v then c else 0) fun u _ => by
    by_cases e : v = u
    · rw [if_pos e, if_pos e.symm]
    · rw [if_neg e, if_neg (fun z => e z.symm)]]
  exact sumI_delta (f := fun _ => c) h
theorem o_sum {im : List (Option Nat)} {i G : Nat} {c : Int} (h : oD im i = none ∨ ∃ k, k < G ∧ oD im i = some k) : sumI G (fun k => if oD im i = some k then c else 0) = if oD im i = none then 0 else c := by
  rcases h with h | ⟨k, hk, h⟩
  · rw [if_pos h]
    exact sumI_zero fun k _ => if_neg (fun z => by rw [h] at z; cases z)
  · rw [if_neg (fun z => by rw [h] at z; cases z), h]
    rw [sumI_congr (g := fun u => if k = u then c else 0) fun u _ => by
      by_cases e : k = u
      · rw [if_pos e, if_pos (congrArg some e)]
      · rw [if_neg e, if_neg (fun z => e (Option.some.inj z))]]
    exact sumI_delta2 hk
theorem tch_sum {e : Pr} {n : Nat} (h1 : e.1 < e.2) (h2 : e.2 < n) : sumI n (fun v => if Tch e v then 1 else 0) = 2 := by
  rw [sumI_congr (g := fun v => (if e.1 = v then 1 else 0) + (if e.2 = v then 1 else 0)) fun v _ => by
    by_cases a : e.1 = v <;> by_cases b : e.2 = v
    · omega
    · rw [if_pos (show Tch e v from Or.inl a), if_pos a, if_neg b]; rfl
    · rw [if_pos (show Tch e v from Or.inr b), if_neg a, if_pos b]; rfl
    · rw [if_neg (fun z : Tch e v => z.elim a b), if_neg a, if_neg b]; rfl, sumI_add, sumI_delta2 (by omega), sumI_delta2 h2]
  rfl
section
variable {n N d : Nat} {goal es : List Pr} {nm : List Nat} {im : List (Option Nat)}
theorem es_at {es : List Pr} {i : Nat} (hi : i < es.length) : es[i]? = some (eD es i) := by
  unfold eD
  rw [List.getD_eq_getElem?_getD, List.getElem?_eq_getElem hi]; rfl
theorem im_oD {im : List (Option Nat)} {i : Nat} {o : Option Nat} (h : im[i]? = some o) : oD im i = o := by
  unfold oD
  rw [List.getD_eq_getElem?_getD, h]; rfl
theorem map_side (h : MapOk n goal d N es nm im) {i : Nat} (hi : i < es.length) : (gd nm (eD es i).1 = gd nm (eD es i).2 ∧ oD im i = none) ∨ (∃ k, k < goal.length ∧ oD im i = some k ∧ gd nm (eD es i).1 ≠ gd nm (eD es i).2 ∧ sidesOf nm (eD es i) = gE goal k) := by
  rcases h.side i _ (es_at hi) with ⟨h1, h2⟩ | ⟨k, h1, h2, h3, h4⟩
  · exact .inl ⟨h1, im_oD h2⟩
  · exact .inr ⟨k, h1, im_oD h2, h3, h4⟩
theorem map_opt (h : MapOk n goal d N es nm im) {i : Nat} (hi : i < es.length) : oD im i = none ∨ ∃ k, k < goal.length ∧ oD im i = some k := by
  rcases map_side h hi with ⟨_, h2⟩ | ⟨k, h1, h2, _⟩
  · exact .inl h2
  · exact .inr ⟨k, h1, h2⟩
theorem side_tch {nm : List Nat} {e g : Pr} {v : Nat} (h : sidesOf nm e = g) (t : Tch e v) : Tch g (gd nm v) := by
  subst h
  unfold sidesOf
  show min (gd nm e.1) (gd nm e.2) = gd nm v ∨ max (gd nm e.1) (gd nm e.2) = gd nm v
  rcases t with t | t
  · rw [t]; omega
  · rw [t]; omega
theorem map_sh (h : MapOk n goal d N es nm im) (good : Good n goal) (hn : 2 ≤ n) : ∀ p, p < N → ∀ k, k < goal.length → Tch (gE goal k) (gd nm p) → cntE es im p k = gd (shOf es im goal nm N) p := fun p hp k hk ht => by
  obtain ⟨m, hm, hs⟩ := h.sh
  rw [hm p hp k hk ht]
  have ha := row_all h hm hp
  have hne := row_ne h good hn hp
  symm
  show (shOf es im goal nm N).getD p 0 = m p
  unfold shOf
  rw [List.getD_eq_getElem?_getD, List.getElem?_map, List.getElem?_range hp]
  show (rowS es im goal nm p).headD 0 = m p
  refine ha _ ?_
  cases hr : rowS es im goal nm p with
  | nil => exact absurd hr hne
  | cons a l => exact List.mem_cons_self ..
theorem map_cnt (h : MapOk n goal d N es nm im) (good : Good n goal) (hn : 2 ≤ n) {p k : Nat} (hp : p < N) (hk : k < goal.length) : ((cntE es im p k : Nat) : Int) = if Tch (gE goal k) (gd nm p) then ((gd (shOf es im goal nm N) p : Nat) : Int) else 0 := by
  by_cases c : Tch (gE goal k) (gd nm p)
  · rw [if_pos c, map_sh h good hn p hp k hk c]
  · rw [if_neg c, cntE_sumI h.lim]
    refine sumI_zero fun i hi => if_neg fun z => c ?_
    rcases map_side h hi with ⟨_, h2⟩ | ⟨k', _, h2, _, h4⟩
    · rw [h2] at z; cases z.2
    · rw [h2] at z
      obtain rfl : k' = k := Option.some.inj z.2
      exact side_tch h4 z.1
theorem map_one (h : MapOk n goal d N es nm im) (good : Good n goal) (hn : 2 ≤ n) {v : Nat} (hv : v < N) : val es v = gd (shOf es im goal nm N) v * val goal (gd nm v) + shutE es im v := by
  have e1 : ((val es v : Nat) : Int) = ((shutE es im v : Nat) : Int) + sumI goal.length (fun k => ((cntE es im v k : Nat) : Int)) := by
    rw [val_sumI, shut_sumI, sumI_congr (f := fun k => ((cntE es im v k : Nat) : Int)) fun k _ => cntE_sumI h.lim, sumI_swap, ← sumI_add]
    refine sumI_congr fun i hi => ?_
    rw [sumI_congr (g := fun k => if oD im i = some k then (if Tch (eD es i) v then 1 else 0) else 0) fun k _ => ite_and2, o_sum (map_opt h hi)]
    exact ite_three
  rw [sumI_congr fun k hk => map_cnt h good hn hv hk] at e1
  have e2 : sumI goal.length (fun k => if Tch (gE goal k) (gd nm v) then ((gd (shOf es im goal nm N) v : Nat) : Int) else 0) = ((gd (shOf es im goal nm N) v : Nat) : Int) * ((val goal (gd nm v) : Nat) : Int) := by
    rw [val_sumI, ← sumI_mul]
    refine sumI_congr fun k _ => ?_
    show (if Tch (eD goal k) (gd nm v) then ((gd (shOf es im goal nm N) v : Nat) : Int) else 0) = _
    by_cases t : Tch (eD goal k) (gd nm v)
    · rw [if_pos t, if_pos t, Int.mul_one]
    · rw [if_neg t, if_neg t, Int.mul_zero]
  rw [e2, ← Int.natCast_mul] at e1
  omega
theorem map_totI (h : MapOk n goal d N es nm im) (good : Good n goal) (hn : 2 ≤ n) {q : Nat} (hq : q < n) : sumI N (fun p => if gd nm p = q then ((gd (shOf es im goal nm N) p : Nat) : Int) else 0) = (d : Int) := by
  rw [← map_total h good hn q hq, fil_sumI]
  refine sumI_congr fun p _ => ?_
  by_cases c : gd nm p = q
  · rw [if_pos c, if_pos (decide_eq_true c)]
  · rw [if_neg c, if_neg (by rw [decide_eq_false c]; exact Bool.false_ne_true)]
theorem map_all (h : MapOk n goal d N es nm im) (good : Good n goal) (hn : 2 ≤ n) : sumI N (fun p => ((gd (shOf es im goal nm N) p : Nat) : Int)) = (n : Int) * (d : Int) := by
  rw [← sumI_one, ← sumI_congr (f := fun q => sumI N (fun p => if gd nm p = q then ((gd (shOf es im goal nm N) p : Nat) : Int) else 0)) fun q hq => map_totI h good hn hq, sumI_swap]
  refine sumI_congr fun p hp => ?_
  refine (sumI_delta2 ?_).symm
  have hp2 : p < nm.length := by rw [h.lnm]; exact hp
  exact h.bnm _ (gd_mem hp2)
theorem map_len (h : MapOk n goal d N es nm im) : (es.length : Int) = sumI es.length (fun i => if oD im i = none then 1 else 0) + (goal.length : Int) * (d : Int) := by
  rw [← sumI_one, ← sumI_congr (f := fun k => ((im.countP (fun o => decide (o = some k)) : Nat) : Int)) fun k hk => congrArg _ (h.deg k hk), sumI_congr fun k _ => deg_sumI, h.lim, sumI_swap, ← sumI_add]
  rw [sumI_congr (g := fun _ => (1 : Int)) fun i hi => by
    rw [o_sum (map_opt h hi)]
    by_cases c : oD im i = none
    · rw [if_pos c, if_pos c]; rfl
    · rw [if_neg c, if_neg c]; rfl, sumI_one, Int.mul_one]
theorem map_shut (h : MapOk n goal d N es nm im) : sumI N (fun v => ((shutE es im v : Nat) : Int)) = 2 * sumI es.length (fun i => if oD im i = none then 1 else 0) := by
  rw [sumI_congr fun v _ => shut_sumI, sumI_swap, ← sumI_mul]
  refine sumI_congr fun i hi => ?_
  by_cases c : oD im i = none
  · rw [if_pos c, sumI_congr (g := fun v => if Tch (eD es i) v then 1 else 0) fun v _ => by
      by_cases t : Tch (eD es i) v
      · rw [if_pos ⟨c, t⟩, if_pos t]
      · rw [if_neg (fun z => t z.2), if_neg t]]
    have := h.good.1 _ (List.getElem_mem hi)
    have e : eD es i = es[i] := by unfold eD; rw [List.getD_eq_getElem?_getD, List.getElem?_eq_getElem hi]; rfl
    rw [tch_sum (by rw [e]; exact this.1) (by rw [e]; exact this.2)]
    rfl
  · rw [if_neg c]
    exact sumI_zero fun v _ => if_neg (fun z => c z.1)
theorem map_br (h : MapOk n goal d N es nm im) (good : Good n goal) (hn : 2 ≤ n) (hg : 1 ≤ goal.length) (h400 : es.length ≤ 400) : BrOk N n es goal nm im (shOf es im goal nm N) where
  lnm := h.lnm
  bnm := h.bnm
  lim := h.lim
  bim := fun k hk => by
    obtain ⟨i, hi, e⟩ := List.getElem_of_mem hk
    have hi2 : i < es.length := by rw [← h.lim]; exact hi
    have ho : oD im i = some k := im_oD (by rw [List.getElem?_eq_getElem hi, e])
    rcases map_opt h hi2 with z | ⟨k', hk', z⟩
    · rw [ho] at z; cases z
    · rw [ho] at z
      obtain rfl := Option.some.inj z
      exact hk'
  esh := rfl
  bsh := fun s hs => by
    unfold shOf at hs
    obtain ⟨v, _, rfl⟩ := List.mem_map.mp hs
    have hc : ∀ x ∈ rowS es im goal nm v, x ≤ 1000 := fun x hx => by
      unfold rowS at hx
      obtain ⟨k, _, rfl⟩ := List.mem_map.mp hx
      unfold cntE
      have h1 := List.countP_le_length (p := fun p : Pr × Option Nat => (decide (p.1.1 = v) || decide (p.1.2 = v)) && decide (p.2 = some k)) (l := es.zip im)
      rw [List.length_zip] at h1
      omega
    cases hr : rowS es im goal nm v with
    | nil => exact Nat.zero_le _
    | cons a l => exact hc a (by rw [hr]; exact List.mem_cons_self ..)
  one := fun v hv => map_one h good hn hv
  tot := by
    have e1 := map_len h
    have e2 := map_shut h
    have e3 := map_all h good hn
    have e4 : (dueL N es im (shOf es im goal nm N)).sum = sumI N (fun v => 2 * ((gd (shOf es im goal nm N) v : Nat) : Int) + (-2) + ((shutE es im v : Nat) : Int)) := by
      show sumI N _ = _
      refine sumI_congr fun v _ => ?_
      show 2 * (((gd (shOf es im goal nm N) v : Nat) : Int) - 1) + _ = _
      omega
    rw [e4, sumI_add, sumI_add, sumI_mul, sumI_one, e2, e3]
    have hdeg : degOf im = d := h.deg 0 (by omega)
    rw [hdeg, Int.mul_sub ((d : Int) * 2)]
    have a1 : (d : Int) * 2 * (goal.length : Int) = 2 * ((goal.length : Int) * (d : Int)) := by rw [Int.mul_assoc, Int.mul_left_comm, Int.mul_comm (d : Int)]
    have a2 : (d : Int) * 2 * (n : Int) = 2 * ((n : Int) * (d : Int)) := by rw [Int.mul_assoc, Int.mul_left_comm, Int.mul_comm (d : Int)]
    rw [a1, a2]
    omega
/-- all places at one -/
theorem map_zero (hes : Good N es) (hlex : Lex es) (hn : 2 ≤ n) : MapOk n goal 0 N es (List.replicate N 0) (List.replicate es.length none) where
  good := hes
  lex := hlex
  lnm := List.length_replicate
  bnm := fun x hx => by rw [(List.mem_replicate.mp hx).2]; omega
  lim := List.length_replicate
  side := fun i e he => .inl ⟨by
    have e0 : ∀ p, gd (List.replicate N 0) p = 0 := fun p => by
      unfold gd
      rw [List.getD_eq_getElem?_getD, List.getElem?_replicate]
      split <;> rfl
    rw [e0, e0], by rw [List.getElem?_replicate, if_pos (List.getElem?_eq_some_iff.mp he).1]⟩
  deg := fun k _ => by rw [List.countP_replicate, if_neg (by rw [decide_eq_false (fun z => nomatch z)]; exact Bool.false_ne_true)]
  sh := ⟨fun _ => 0, fun p _ k _ _ => by
    have h1 := cntE_sumI (es := es) (im := List.replicate es.length none) (v := p) (k := k) List.length_replicate
    rw [sumI_zero fun i hi => if_neg fun z => by
      have : oD (List.replicate es.length none) i = none := im_oD (by rw [List.getElem?_replicate, if_pos hi])
      rw [this] at z
      cases z.2] at h1
    show cntE es (List.replicate es.length none) p k = 0
    omega, fun q _ => zero_sum fun p _ => rfl⟩
end
/-! ### one behind the other -/
section
variable {n m N d1 d2 : Nat} {goal es fs : List Pr} {nm1 nm2 : List Nat} {im1 im2 : List (Option Nat)}
theorem comp_gd {p : Nat} (hp : p < nm1.length) : gd (compP nm2 nm1) p = gd nm2 (gd nm1 p) := by
  unfold compP gd
  rw [List.getD_eq_getElem?_getD, List.getElem?_map, List.getD_eq_getElem?_getD (l := nm1), List.getElem?_eq_getElem hp]; rfl
theorem comp_oD {i : Nat} : oD (compI im2 im1) i = (oD im1 i).bind (fun k => oD im2 k) := by
  unfold compI oD
  rw [List.getD_eq_getElem?_getD, List.getElem?_map, List.getD_eq_getElem?_getD (l := im1)]
  cases im1[i]? <;> rfl
theorem comp_some (h1 : MapOk m fs d1 N es nm1 im1) {i j : Nat} (hi : i < es.length) {c : Int} : (if oD (compI im2 im1) i = some j then c else 0) = sumI fs.length (fun k => if oD im1 i = some k then (if oD im2 k = some j then c else 0) else 0) := by
  rw [comp_oD]
  rcases map_opt h1 hi with e | ⟨k, hk, e⟩
  · rw [e, if_neg (by exact fun z => nomatch z)]
    exact (sumI_zero fun k _ => if_neg (fun z => nomatch z)).symm
  · rw [e]
    rw [sumI_congr (g := fun u => if u = k then (if oD im2 u = some j then c else 0) else 0) fun u _ => by
      by_cases z : u = k
      · rw [if_pos z, if_pos (congrArg some z.symm)]
      · rw [if_neg z, if_neg (fun y => z (Option.some.inj y).symm)]]
    exact (sumI_delta (f := fun u => if oD im2 u = some j then c else 0) hk).symm
theorem comp_cnt (h1 : MapOk m fs d1 N es nm1 im1) {p j : Nat} : ((cntE es (compI im2 im1) p j : Nat) : Int) = sumI fs.length (fun k => if oD im2 k = some j then ((cntE es im1 p k : Nat) : Int) else 0) := by
  have hl : (compI im2 im1).length = es.length := by unfold compI; rw [List.length_map]; exact h1.lim
  rw [cntE_sumI hl, sumI_congr fun i hi => ite_and2.trans (comp_some h1 hi), sumI_swap]
  refine sumI_congr fun k hk => ?_
  by_cases c : oD im2 k = some j
  · rw [if_pos c, cntE_sumI h1.lim]
    refine sumI_congr fun i hi => ?_
    rw [if_pos c, ite_and2]
  · rw [if_neg c]
    refine sumI_zero fun i hi => ?_
    rw [if_neg c]
    split <;> rfl
theorem comp_cnt2 (h1 : MapOk m fs d1 N es nm1 im1) (h2 : MapOk n goal d2 m fs nm2 im2) (gf : Good m fs) (hm : 2 ≤ m) {p j : Nat} (hp : p < N) : ((cntE es (compI im2 im1) p j : Nat) : Int) = ((gd (shOf es im1 fs nm1 N) p : Nat) : Int) * ((cntE fs im2 (gd nm1 p) j : Nat) : Int) := by
  rw [comp_cnt h1, cntE_sumI h2.lim, ← sumI_mul]
  refine sumI_congr fun k hk => ?_
  rw [map_cnt h1 gf hm hp hk]
  show (if oD im2 k = some j then (if Tch (eD fs k) (gd nm1 p) then ((gd (shOf es im1 fs nm1 N) p : Nat) : Int) else 0) else 0) = _
  exact ite_mul2
theorem comp_tot {f g : Nat → Int} {q : Nat} (b : ∀ p, p < N → gd nm1 p < m) : sumI N (fun p => if gd nm2 (gd nm1 p) = q then f p * g (gd nm1 p) else 0) = sumI m (fun r => if gd nm2 r = q then g r * sumI N (fun p => if gd nm1 p = r then f p else 0) else 0) := by
  rw [sumI_congr (g := fun p => sumI m (fun r => if r = gd nm1 p then (if gd nm2 r = q then f p * g r else 0) else 0)) fun p hp => (sumI_delta (f := fun r => if gd nm2 r = q then f p * g r else 0) (b p hp)).symm, sumI_swap]
  refine sumI_congr fun r hr => ?_
  by_cases c : gd nm2 r = q
  · rw [if_pos c, ← sumI_mul]
    refine sumI_congr fun p hp => ?_
    by_cases e : r = gd nm1 p
    · rw [if_pos e, if_pos c, if_pos e.symm, Int.mul_comm]
    · rw [if_neg e, if_neg (fun z => e z.symm), Int.mul_zero]
  · rw [if_neg c]
    refine sumI_zero fun p hp => ?_
    rw [if_neg c]
    split <;> rfl
theorem comp_ok (h1 : MapOk m fs d1 N es nm1 im1) (h2 : MapOk n goal d2 m fs nm2 im2) (gf : Good m fs) (hm : 2 ≤ m) (gg : Good n goal) (hn : 2 ≤ n) : MapOk n goal (d1 * d2) N es (compP nm2 nm1) (compI im2 im1) := by
  have b1 : ∀ p, p < N → gd nm1 p < m := fun p hp => by
    have hp2 : p < nm1.length := by rw [h1.lnm]; exact hp
    exact h1.bnm _ (gd_mem hp2)
  have gc : ∀ p, p < N → gd (compP nm2 nm1) p = gd nm2 (gd nm1 p) := fun p hp => comp_gd (by rw [h1.lnm]; exact hp)
  refine ⟨h1.good, h1.lex, ?_, ?_, ?_, ?_, ?_, ?_⟩
  · unfold compP; rw [List.length_map]; exact h1.lnm
  · intro x hx
    unfold compP at hx
    obtain ⟨p, hp, rfl⟩ := List.mem_map.mp hx
    have := h1.bnm p hp
    have hp2 : p < nm2.length := by rw [h2.lnm]; exact this
    exact h2.bnm _ (gd_mem hp2)
  · unfold compI; rw [List.length_map]; exact h1.lim
  · intro i e he
    have hi : i < es.length := (List.getElem?_eq_some_iff.mp he).1
    obtain rfl : eD es i = e := by rw [es_at hi] at he; exact Option.some.inj he
    have eb := h1.good.1 _ (List.getElem_mem hi)
    have ee : eD es i = es[i] := by unfold eD; rw [List.getD_eq_getElem?_getD, List.getElem?_eq_getElem hi]; rfl
    have q1 : (eD es i).1 < N := by rw [ee]; omega
    have q2 : (eD es i).2 < N := by rw [ee]; omega
    have gi : ∀ o, oD (compI im2 im1) i = o → (compI im2 im1)[i]? = some o := fun o ho => by
      have hl : i < (compI im2 im1).length := by unfold compI; rw [List.length_map, h1.lim]; exact hi
      rw [← ho]
      unfold oD
      rw [List.getD_eq_getElem?_getD, List.getElem?_eq_getElem hl]; rfl
    rw [gc _ q1, gc _ q2]
    rcases map_side h1 hi with ⟨a1, a2⟩ | ⟨k, a1, a2, a3, a4⟩
    · exact .inl ⟨by rw [a1], gi _ (by rw [comp_oD, a2]; rfl)⟩
    · have ek : (eD fs k) = (min (gd nm1 (eD es i).1) (gd nm1 (eD es i).2), max (gd nm1 (eD es i).1) (gd nm1 (eD es i).2)) := a4.symm
      rcases map_side h2 a1 with ⟨c1, c2⟩ | ⟨j, c1, c2, c3, c4⟩
      · refine .inl ⟨?_, gi _ (by rw [comp_oD, a2]; exact c2)⟩
        rw [ek] at c1
        have c1 : gd nm2 (min (gd nm1 (eD es i).1) (gd nm1 (eD es i).2)) = gd nm2 (max (gd nm1 (eD es i).1) (gd nm1 (eD es i).2)) := c1
        rcases Nat.le_total (gd nm1 (eD es i).1) (gd nm1 (eD es i).2) with z | z
        · rw [Nat.min_eq_left z, Nat.max_eq_right z] at c1; exact c1
        · rw [Nat.min_eq_right z, Nat.max_eq_left z] at c1; exact c1.symm
      · refine .inr ⟨j, c1, gi _ (by rw [comp_oD, a2]; exact c2), ?_, ?_⟩
        · rw [ek] at c3
          have c3 : gd nm2 (min (gd nm1 (eD es i).1) (gd nm1 (eD es i).2)) ≠ gd nm2 (max (gd nm1 (eD es i).1) (gd nm1 (eD es i).2)) := c3
          rcases Nat.le_total (gd nm1 (eD es i).1) (gd nm1 (eD es i).2) with z | z
          · rw [Nat.min_eq_left z, Nat.max_eq_right z] at c3; exact c3
          · rw [Nat.min_eq_right z, Nat.max_eq_left z] at c3; exact c3.symm
        · rw [← c4, ek]
          show (min (gd (compP nm2 nm1) (eD es i).1) (gd (compP nm2 nm1) (eD es i).2), max (gd (compP nm2 nm1) (eD es i).1) (gd (compP nm2 nm1) (eD es i).2)) = (min (gd nm2 (min (gd nm1 (eD es i).1) (gd nm1 (eD es i).2))) (gd nm2 (max (gd nm1 (eD es i).1) (gd nm1 (eD es i).2))), max (gd nm2 (min (gd nm1 (eD es i).1) (gd nm1 (eD es i).2))) (gd nm2 (max (gd nm1 (eD es i).1) (gd nm1 (eD es i).2))))
          rw [gc _ q1, gc _ q2]
          rcases Nat.le_total (gd nm1 (eD es i).1) (gd nm1 (eD es i).2) with z | z
          · rw [Nat.min_eq_left z, Nat.max_eq_right z]
          · rw [Nat.min_eq_right z, Nat.max_eq_left z, Nat.min_comm, Nat.max_comm]
  · intro j hj
    have hl : (compI im2 im1).length = es.length := by unfold compI; rw [List.length_map]; exact h1.lim
    have e1 : (((compI im2 im1).countP (fun o => decide (o = some j)) : Nat) : Int) = (d1 : Int) * (d2 : Int) := by
      have hd2 := h2.deg j hj
      rw [deg_sumI, hl, sumI_congr fun i hi => comp_some h1 hi, sumI_swap, ← hd2, deg_sumI, h2.lim, ← sumI_mul]
      refine sumI_congr fun k hk => ?_
      by_cases c : oD im2 k = some j
      · rw [if_pos c, Int.mul_one, ← h1.deg k hk, deg_sumI, h1.lim]
      · rw [if_neg c, Int.mul_zero]
        refine sumI_zero fun i _ => ?_
        rw [ite_self]
    rw [← Int.natCast_mul] at e1
    exact Int.ofNat.inj e1
  · refine ⟨fun p => gd (shOf es im1 fs nm1 N) p * gd (shOf fs im2 goal nm2 m) (gd nm1 p), fun p hp j hj ht => ?_, fun q hq => ?_⟩
    · rw [gc p hp] at ht
      have e1 := comp_cnt2 h1 h2 gf hm (p := p) (j := j) hp
      rw [map_sh h2 gg hn _ (b1 p hp) j hj ht, ← Int.natCast_mul] at e1
      exact Int.ofNat.inj e1
    · have e1 : (((((List.range N).filter fun p => decide (gd (compP nm2 nm1) p = q)).map fun p => gd (shOf es im1 fs nm1 N) p * gd (shOf fs im2 goal nm2 m) (gd nm1 p)).sum : Nat) : Int) = (d1 : Int) * (d2 : Int) := by
        rw [fil_sumI, sumI_congr (g := fun p => if gd nm2 (gd nm1 p) = q then ((gd (shOf es im1 fs nm1 N) p : Nat) : Int) * ((gd (shOf fs im2 goal nm2 m) (gd nm1 p) : Nat) : Int) else 0) fun p hp => by
          rw [gc p hp]
          by_cases c : gd nm2 (gd nm1 p) = q
          · rw [if_pos c, if_pos (decide_eq_true c), Int.natCast_mul]
          · rw [if_neg c, if_neg (by rw [decide_eq_false c]; exact Bool.false_ne_true)],
          comp_tot (f := fun p => ((gd (shOf es im1 fs nm1 N) p : Nat) : Int)) (g := fun r => ((gd (shOf fs im2 goal nm2 m) r : Nat) : Int)) b1,
          ← map_totI h2 gg hn hq, ← sumI_mul]
        refine sumI_congr fun r hr => ?_
        by_cases c : gd nm2 r = q
        · rw [if_pos c, if_pos c, map_totI h1 gf hm hr, Int.mul_comm]
        · rw [if_neg c, if_neg c, Int.mul_zero]
      rw [← Int.natCast_mul] at e1
      exact Int.ofNat.inj e1
theorem comp_sh (h1 : MapOk m fs d1 N es nm1 im1) (h2 : MapOk n goal d2 m fs nm2 im2) (gf : Good m fs) (hm : 2 ≤ m) (gg : Good n goal) (hn : 2 ≤ n) {p : Nat} (hp : p < N) : gd (shOf es (compI im2 im1) goal (compP nm2 nm1) N) p = gd (shOf es im1 fs nm1 N) p * gd (shOf fs im2 goal nm2 m) (gd nm1 p) := by
  have h3 := comp_ok h1 h2 gf hm gg hn
  have b1 : gd nm1 p < m := by
    have hp2 : p < nm1.length := by rw [h1.lnm]; exact hp
    exact h1.bnm _ (gd_mem hp2)
  have gc : gd (compP nm2 nm1) p = gd nm2 (gd nm1 p) := comp_gd (by rw [h1.lnm]; exact hp)
  have b2 : gd nm2 (gd nm1 p) < n := by
    have hp2 : gd nm1 p < nm2.length := by rw [h2.lnm]; exact b1
    exact h2.bnm _ (gd_mem hp2)
  have hw := want_ne gg hn b2
  obtain ⟨j, hj⟩ : ∃ j, j ∈ wantE goal (gd nm2 (gd nm1 p)) := by
    cases hr : wantE goal (gd nm2 (gd nm1 p)) with
    | nil => exact absurd hr hw
    | cons a l => exact ⟨a, List.mem_cons_self ..⟩
  unfold wantE at hj
  obtain ⟨j1, j2⟩ := List.mem_filter.mp hj
  have j1 := List.mem_range.mp j1
  rw [Bool.or_eq_true, decide_eq_true_iff, decide_eq_true_iff] at j2
  have j2 : Tch (gE goal j) (gd nm2 (gd nm1 p)) := j2
  have e1 := comp_cnt2 h1 h2 gf hm (p := p) (j := j) hp
  rw [map_sh h2 gg hn _ b1 j j1 j2, map_sh h3 gg hn p hp j j1 (by rw [gc]; exact j2), ← Int.natCast_mul] at e1
  exact Int.ofNat.inj e1
theorem comp_push {cs : List Int} (h1 : MapOk m fs d1 N es nm1 im1) (h2 : MapOk n goal d2 m fs nm2 im2) : pushL n (compP nm2 nm1) cs = pushL n nm2 (pushL m nm1 cs) := by
  unfold pushL
  refine List.map_congr_left fun q hq => ?_
  have hl : (compP nm2 nm1).length = N := by unfold compP; rw [List.length_map]; exact h1.lnm
  unfold pushAt
  rw [hl, h2.lnm]
  show sumI N (fun p => if gd (compP nm2 nm1) p = q then gi cs p else 0) = sumI m (fun r => if gd nm2 r = q then gi ((List.range m).map fun q => ((List.range nm1.length).map fun p => if nm1.getD p 0 = q then gi cs p else 0).sum) r else 0)
  have b1 : ∀ p, p < N → gd nm1 p < m := fun p hp => by
    have hp2 : p < nm1.length := by rw [h1.lnm]; exact hp
    exact h1.bnm _ (gd_mem hp2)
  rw [sumI_congr (g := fun p => if gd nm2 (gd nm1 p) = q then gi cs p * (fun _ : Nat => (1 : Int)) (gd nm1 p) else 0) fun p hp => by
    rw [comp_gd (by rw [h1.lnm]; exact hp)]
    show _ = if gd nm2 (gd nm1 p) = q then gi cs p * 1 else 0
    rw [Int.mul_one], comp_tot (f := fun p => gi cs p) (g := fun _ => 1) b1]
  refine sumI_congr fun r hr => ?_
  rw [gi_range hr, h1.lnm, Int.one_mul]
  rfl
theorem comp_pull {row : List Int} (h1 : MapOk m fs d1 N es nm1 im1) (h2 : MapOk n goal d2 m fs nm2 im2) (gf : Good m fs) (hm : 2 ≤ m) (gg : Good n goal) (hn : 2 ≤ n) : pullL (shOf es (compI im2 im1) goal (compP nm2 nm1) N) (compP nm2 nm1) row = pullL (shOf es im1 fs nm1 N) nm1 (pullL (shOf fs im2 goal nm2 m) nm2 row) := by
  unfold pullL
  have hl : (compP nm2 nm1).length = nm1.length := by unfold compP; rw [List.length_map]
  rw [hl]
  refine List.map_congr_left fun p hp => ?_
  have hp := List.mem_range.mp hp
  have hpN : p < N := by rw [← h1.lnm]; exact hp
  have b1 : gd nm1 p < nm2.length := by rw [h2.lnm]; exact h1.bnm _ (gd_mem hp)
  show ((gd (shOf es (compI im2 im1) goal (compP nm2 nm1) N) p : Nat) : Int) * gi row (gd (compP nm2 nm1) p) = ((gd (shOf es im1 fs nm1 N) p : Nat) : Int) * gi ((List.range nm2.length).map fun p => (((shOf fs im2 goal nm2 m).getD p 0 : Nat) : Int) * gi row (nm2.getD p 0)) (gd nm1 p)
  rw [gi_range b1, comp_sh h1 h2 gf hm gg hn hpN, comp_gd hp, Int.natCast_mul, Int.mul_assoc]
  rfl
end
end G3

set_option Elab.async false
set_option linter.all false
set_option maxRecDepth 100000
set_option maxHeartbeats 8000000
namespace G3
open PySem PySem.Spec PyProof.Rows L2
section
variable {X : Cx}
theorem op_eqDK {K : PySem.W.Frag} (hK : X.K = K) (hu : X.A.units + 64 < cLine) : OpR X (compareOp .Eq) (rEqD K) := by subst hK; exact op_eqD hu
end
theorem dp_nats {K : PySem.W.Frag} {H : Hp} : ∀ l : List Nat, DpAll K H (l.map nV) (l.map fun p : Nat => PyData.int (p : Int))
  | [] => .nil
  | a :: l => by rw [List.map_cons, List.map_cons]; exact .cons (.int _) (dp_nats l)
theorem dp_opts {K : PySem.W.Frag} {H : Hp} : ∀ l : List (Option Nat), DpAll K H (l.map optV) (l.map optP)
  | [] => .nil
  | a :: l => by
    rw [List.map_cons, List.map_cons]
    refine .cons ?_ (dp_opts l)
    cases a
    · exact .non
    · exact .int _
/-- [v] * k, the list laid -/
theorem rep_ {H : Hp} {L : Addr} {v : V} {k : Nat} {Q : VK} (hL : H L = some (.lst [v])) (hk : k ≤ 100000) (h : ∀ (p : Addr) (H' : Hp), Same H H' → H p = none → H' p = some (.lst (List.replicate k v)) → Q (.ref p) H') : rRep (.ref L) (nV k) H Q := by
  refine ⟨L, k, [v], rfl, rfl, hL, by omega, by omega, size_le (by show 1 * _ ≤ _; omega), fun c2 nc2 => ?_⟩
  rw [rep_flatI]
  exact h c2 _ (same_upd nc2) nc2 upd_same
theorem len_ {K : PySem.W.Frag} {H : Hp} {a : Addr} {xs : List V} {n : Nat} {Q : VK} (h : H a = some (.lst xs)) (hl : xs.length = n) (q : Q (nV n) H) : rLenK K [.ref a] H Q := ⟨_, n, rfl, .inl ⟨_, SqL.of h, hl.symm⟩, q⟩
theorem tNil_ {σ : L2.St} {H : Hp} {Q : List V → Hp → Prop} (h : Q [] H) : tNil σ H Q := h
theorem fit_natsT {n : Nat} {l : List Nat} (h : l.length ≤ 100000) : Fit (n + 2) (.tuple (l.map fun p : Nat => PyData.int (p : Int))) := ⟨by rw [List.length_map]; exact h, fun d hd => by
  obtain ⟨o, _, rfl⟩ := List.mem_map.mp hd
  exact True.intro⟩
theorem fit_optsT {n : Nat} {l : List (Option Nat)} (h : l.length ≤ 100000) : Fit (n + 2) (.tuple (l.map optP)) := ⟨by rw [List.length_map]; exact h, fun d hd => by
  obtain ⟨o, _, rfl⟩ := List.mem_map.mp hd
  cases o <;> exact True.intro⟩
theorem fit_intsT {n : Nat} {l : List Int} (h : l.length ≤ 100000) : Fit (n + 2) (.tuple (l.map PyData.int)) := ⟨by rw [List.length_map]; exact h, fit_ints⟩
def edL (es : List Pr) : PyData := .list (es.map fun e => .tuple [.int (e.1 : Nat), .int (e.2 : Nat)])
theorem shaped_edL (es : List Pr) : SeqAt.shaped (edL es) = true := by
  unfold SeqAt.shaped edL
  rw [Bool.and_eq_true]
  refine ⟨by rw [PyData.canLay0]; exact lay_edges es, decide_eq_true ?_⟩
  have := depth_edges es
  simp only [PyData.depth]
  omega
theorem eqv_edL (es fs : List Pr) : PyData.eqv (edL es) (edL fs) = decide (es = fs) := by
  unfold edL
  rw [PyData.eqv]
  exact eqv_edges es fs
theorem PoolAt.kp {H H' : Hp} {a : Addr} (h : PoolAt H a) (k : Kp H H') : PoolAt H' a := by
  obtain ⟨c, ns, h1, h2, h3⟩ := h
  exact ⟨c, ns, k.1 _ _ h1 (fun _ z => by cases z), k.lst h2, h3⟩
/-- the second map and its graphs -/
structure SecAt (K : PySem.W.Frag) (H : Hp) (C CM p g gg kd kd2 x eL gL nL iL : Addr) (n gn : Nat) (es ges : List Pr) (nm : List Nat) (im : List (Option Nat)) (sh : List Nat) : Prop where
  pool : PoolAt H p
  k1 : Kpt H C g kd n es
  k2 : Kpt H C gg kd2 gn ges
  gm : GMap K H CM x g gg nm im sh
  pe : PLst H eL es
  pg : PLst H gL ges
  pn : H nL = some (.lst (nm.map nV))
  pi : H iL = some (.lst (im.map optV))
section
variable {K : PySem.W.Frag} {H H' : Hp} {C CM p g gg kd kd2 x eL gL nL iL : Addr} {n gn : Nat} {es ges : List Pr} {nm : List Nat} {im : List (Option Nat)} {sh : List Nat}
theorem SecAt.kp (h : SecAt K H C CM p g gg kd kd2 x eL gL nL iL n gn es ges nm im sh) (k : Kp H H') (k1 : Kpt H' C g kd n es) (k2 : Kpt H' C gg kd2 gn ges) : SecAt K H' C CM p g gg kd kd2 x eL gL nL iL n gn es ges nm im sh :=
  ⟨h.pool.kp k, k1, k2, k.gmap h.gm, k.pl h.pe, k.pl h.pg, k.lst h.pn, k.lst h.pi⟩
theorem SecAt.same (h : SecAt K H C CM p g gg kd kd2 x eL gL nL iL n gn es ges nm im sh) (s : Same H H') : SecAt K H' C CM p g gg kd kd2 x eL gL nL iL n gn es ges nm im sh :=
  h.kp (Same.kp s) (h.k1.same s) (h.k2.same s)
end
structure FstAt (K : PySem.W.Frag) (H : Hp) (C CM p g gg kd kd2 x eL gL nL iL : Addr) (n gn : Nat) (es ges : List Pr) (nm : List Nat) (im : List (Option Nat)) (sh : List Nat) (g3 kd3 x1 mL nmL mkL : Addr) (M : Nat) (ms : List Pr) (nm1 : List Nat) (im1 : List (Option Nat)) (sh1 : List Nat) : Prop where
  s : SecAt K H C CM p g gg kd kd2 x eL gL nL iL n gn es ges nm im sh
  k3 : Kpt H C g3 kd3 M ms
  gm1 : GMap K H CM x1 g3 g nm1 im1 sh1
  pm : PLst H mL ms
  pn1 : H nmL = some (.lst (nm1.map nV))
  pi1 : H mkL = some (.lst (im1.map optV))
section
variable {K : PySem.W.Frag} {H H' : Hp} {C CM p g gg kd kd2 x eL gL nL iL : Addr} {n gn : Nat} {es ges : List Pr} {nm : List Nat} {im : List (Option Nat)} {sh : List Nat} {g3 kd3 x1 mL nmL mkL : Addr} {M : Nat} {ms : List Pr} {nm1 : List Nat} {im1 : List (Option Nat)} {sh1 : List Nat}
theorem FstAt.kp (h : FstAt K H C CM p g gg kd kd2 x eL gL nL iL n gn es ges nm im sh g3 kd3 x1 mL nmL mkL M ms nm1 im1 sh1) (k : Kp H H') (k1 : Kpt H' C g kd n es) (k2 : Kpt H' C gg kd2 gn ges) (k3 : Kpt H' C g3 kd3 M ms) : FstAt K H' C CM p g gg kd kd2 x eL gL nL iL n gn es ges nm im sh g3 kd3 x1 mL nmL mkL M ms nm1 im1 sh1 :=
  ⟨h.s.kp k k1 k2, k3, k.gmap h.gm1, k.pl h.pm, k.lst h.pn1, k.lst h.pi1⟩
theorem FstAt.same (h : FstAt K H C CM p g gg kd kd2 x eL gL nL iL n gn es ges nm im sh g3 kd3 x1 mL nmL mkL M ms nm1 im1 sh1) (s : Same H H') : FstAt K H' C CM p g gg kd kd2 x eL gL nL iL n gn es ges nm im sh g3 kd3 x1 mL nmL mkL M ms nm1 im1 sh1 :=
  h.kp (Same.kp s) (h.s.k1.same s) (h.s.k2.same s) (h.k3.same s)
end
theorem map_N2 {n N d : Nat} {goal es : List Pr} {nm : List Nat} {im : List (Option Nat)} (h : MapOk n goal d N es nm im) (good : Good n goal) (hn : 2 ≤ n) (hd : 1 ≤ d) : 2 ≤ N := by
  have h0 := map_totI h good hn (q := 0) (by omega)
  have h1 := map_totI h good hn (q := 1) (by omega)
  rcases Nat.lt_or_ge N 2 with z | z
  · have : N = 0 ∨ N = 1 := by omega
    rcases this with rfl | rfl
    · have h0 : (0 : Int) = d := h0
      omega
    · have e1 : ∀ f : Nat → Int, sumI 1 f = f 0 := fun f => by rw [sumI_succ]; show (0 : Int) + _ = _; omega
      rw [e1] at h0 h1
      by_cases c : gd nm 0 = 0
      · rw [if_neg (by omega)] at h1; omega
      · rw [if_neg c] at h0; omega
  · exact z
section
variable {P : Program} {w : World} {K : PySem.W.Frag} {mg : Str → Option Value} {base : Heap} {C CM CB : Addr}
abbrev n_law : List Str := ["script", "pool", "goal_n", "goal", "n", "edges", "places", "images", "graph", "to", "second", "many", "more", "names", "marks", "first", "both", "due_places", "due_edges", "sheets", "chips", "other", "at", "k"]
abbrev p_law : List Str := ["script"]
theorem sc_law : FnScope n_law p_law (defScope s_law) := ⟨rfl, rfl, rfl, by decide +kernel, rfl, by decide +kernel, by decide +kernel⟩
def spLaw (K : PySem.W.Frag) : Sp := fun vs H Q _ => ∃ (a : Addr) (ns : List Int), vs = [.ref a] ∧ SqL K H a (ns.map V.int) ∧ ns.length ≤ 10000 ∧ ∀ H', Q (.bl true) H'
theorem ok_law (D : DefAt K mg "law" "law" s_law) (B : Bt mg) (GM : GMapC K CM) (h_law_pool : Has P w K mg base CX0 1 "_law_pool" p_law_pool (spPool K)) (h_law_take : Has P w K mg base CX0 2 "_law_take" p_law_take spTake)
    (h_law_goal : Has P w K mg base CX0 5 "_law_goal" p_law_goal spGoal) (h_law_map : Has P w K mg base CX0 4 "_law_map" p_law_map spMap) (mk_Graph : HasMk P w K mg base CX0 3 "Graph" C p_Graph___init__ (spGInit C))
    (h_law_is_branched : Has P w K mg base CX0 5 "_law_is_branched" p_law_is_branched (spBr K C CM)) (h_law_same : Has P w K mg base CX0 4 "_law_same" p_law_same (spSame K 3)) (h_GEq : HasEq P w K mg base 1 C p_Graph___eq__ (spGEq C))
    (h_map_after : Has P w K mg base CX0 6 "map_after" p_map_after (fun vs H Q _ => spMA K C CM CB vs H Q (fun _ _ _ => False))) (h_law_great_row : Has P w K mg base CX0 4 "_law_great_row" p_law_great_row spGRow)
    (h_pushed : Has P w K mg base CX0 3 "pushed" p_pushed (spPush K C CM)) (h_pulled : Has P w K mg base CX0 3 "pulled" p_pulled (spPull K C CM)) (h_law_fault : Has P w K mg base CX0 7 "_law_fault" p_law_fault (spLF K C CM))
    (mk_GraphMap : HasMk P w K mg base CX0 4 "GraphMap" CM p_GraphMap___init__ (fun vs H Q _ => spGM K C CM CB vs H Q (fun _ _ _ => False))) : HasG P w K mg base CX0 8 "law" p_law (spLaw K) := by
  refine hasG_of D sc_law (fun _ _ _ _ _ _ us hl => match us, hl with | [_], _ => rfl) (fun vs H Q E h => ?_) (fun f cdv A outer s H vs Q E hgd hr h => ?_)
  · obtain ⟨a, ns, rfl, _⟩ := h
    rfl
  · obtain ⟨a, ns, rfl, ha, hl, q⟩ := h
    refine ⟨_, (pss_cons (ps_set (i := 1) sc_law.nd rfl (.inl rfl) (pe_h h_law_pool hr pass0 (pa_cons (pv 0) pa_nil)))
  (pss_cons (ps_asg (pe_h h_law_goal hr pass0 (pa_cons (pv 1) (pa_cons pe_int (pa_cons pe_int pa_nil)))) (pgT (K := K) (n := 2) rfl rfl (pgs_cons (pg_name (i := 2) sc_law.nd rfl (.inl rfl)) (pgs_cons (pg_name (i := 3) sc_law.nd rfl (.inl rfl)) pgs_nil))))
  (pss_cons (ps_asg (pe_h h_law_map hr pass0 (pa_cons (pv 1) (pa_cons (pv 2) (pa_cons (pv 3) (pa_cons (pe_op op_add pe_int (pe_h h_law_take hr pass0 (pa_cons (pv 1) (pa_cons pe_int pa_nil)))) pa_nil))))) (pgT (K := K) (n := 4) rfl rfl (pgs_cons (pg_name (i := 4) sc_law.nd rfl (.inl rfl)) (pgs_cons (pg_name (i := 5) sc_law.nd rfl (.inl rfl)) (pgs_cons (pg_name (i := 6) sc_law.nd rfl (.inr rfl)) (pgs_cons (pg_name (i := 7) sc_law.nd rfl (.inr rfl)) pgs_nil))))))
  (pss_cons (ps_par (i := 8) (j := 9) rfl sc_law.nd rfl rfl (by decide) rfl rfl (pa_cons (pe_makeH mk_Graph hr pass0 (pa_cons (pv 4) (pa_cons (pv 5) pa_nil))) (pa_cons (pe_makeH mk_Graph hr pass0 (pa_cons (pv 2) (pa_cons (pv 3) pa_nil))) pa_nil)) rfl)
  (Evl.pss_cut (ps_set (i := 10) sc_law.nd rfl (.inr rfl) (pe_makeH mk_GraphMap hr pass0 (pa_cons (pv 8) (pa_cons (pv 9) (pa_cons (pv 6) (pa_cons (pv 7) pa_nil))))))
  (pss_cons (ps_if (pt_not (pt_val (pe_h h_law_is_branched hr pass0 (pa_cons (pv 10) (pa_cons (pv 4) (pa_cons (pv 5) (pa_cons (pv 2) (pa_cons (pv 3) (pa_cons (pv 6) (pa_cons (pv 7) pa_nil)))))))))) (pss_one (ps_ret pe_bl)) pss_nil)
  (Evl.pss_cut (ps_if (pt_not (pt_val (pe_h h_law_is_branched hr pass0 (pa_cons (pe_makeH mk_GraphMap hr pass0 (pa_cons (pv 8) (pa_cons (pv 9) (pa_cons (pe_op op_rep (pe_lst (pa_cons pe_int pa_nil)) (pv 4)) (pa_cons (pe_op op_rep (pe_lst (pa_cons pe_non pa_nil)) (pe_callB (lenK (K := K) rfl) rfl B.len PySem.boot_len (pa_cons (pv 5) pa_nil))) pa_nil))))) (pa_cons (pv 4) (pa_cons (pv 5) (pa_cons (pv 2) (pa_cons (pv 3) (pa_cons (pe_op op_rep (pe_lst (pa_cons pe_int pa_nil)) (pv 4)) (pa_cons (pe_op op_rep (pe_lst (pa_cons pe_non pa_nil)) (pe_callB (lenK (K := K) rfl) rfl B.len PySem.boot_len (pa_cons (pv 5) pa_nil))) pa_nil)))))))))) (pss_one (ps_ret pe_bl)) pss_nil)
  (pss_cons (ps_asg (pe_h h_law_map hr pass0 (pa_cons (pv 1) (pa_cons (pv 4) (pa_cons (pv 5) (pa_cons (pe_op op_add pe_int (pe_h h_law_take hr pass0 (pa_cons (pv 1) (pa_cons pe_int pa_nil)))) pa_nil))))) (pgT (K := K) (n := 4) rfl rfl (pgs_cons (pg_name (i := 11) sc_law.nd rfl (.inl rfl)) (pgs_cons (pg_name (i := 12) sc_law.nd rfl (.inl rfl)) (pgs_cons (pg_name (i := 13) sc_law.nd rfl (.inr rfl)) (pgs_cons (pg_name (i := 14) sc_law.nd rfl (.inl rfl)) pgs_nil))))))
  (pss_cons (ps_if (PW.pt (pw_or (pt_cmpR op_gt (pv 11) pe_int (nomark _)) (pw_or1 (pt_cmpR op_gt (pe_callB (lenK (K := K) rfl) rfl B.len PySem.boot_len (pa_cons (pv 12) pa_nil)) pe_int (nomark _))))) (pss_one (ps_ret pe_bl)) pss_nil)
  (Evl.pss_cut (ps_set (i := 15) sc_law.nd rfl (.inr rfl) (pe_makeH mk_GraphMap hr pass0 (pa_cons (pe_makeH mk_Graph hr pass0 (pa_cons (pv 11) (pa_cons (pv 12) pa_nil))) (pa_cons (pv 8) (pa_cons (pv 13) (pa_cons (pv 14) pa_nil))))))
  (pss_cons (ps_if (pt_not (pt_val (pe_h h_law_is_branched hr pass0 (pa_cons (pv 15) (pa_cons (pv 11) (pa_cons (pv 12) (pa_cons (pv 4) (pa_cons (pv 5) (pa_cons (pv 13) (pa_cons (pv 14) pa_nil)))))))))) (pss_one (ps_ret pe_bl)) pss_nil)
  (Evl.pss_cut (ps_set (i := 16) sc_law.nd rfl (.inl rfl) (pe_h h_map_after hr pass0 (pa_cons (pv 15) (pa_cons (pv 10) pa_nil))))
  (pss_cons (ps_setLc (i := 17) (own := [("at", 22)]) (g := gName 22) (tt := tYes) rfl sc_law.nd rfl rfl (sw_true rfl rfl rfl (by decide +kernel)) (piL (K := K) rfl (pv 13)) (blkOk_by (N := n_law) (sc := defScope s_law) (by decide +kernel)) (fun _ _ _ _ _ => (pg_name (i := 22) sc_law.nd rfl (.inl rfl))) (fun _ _ _ _ _ => pts_nil) (fun _ _ _ _ _ => (pe_ix (ixL (K := K) rfl) (pv 6) (pv 22) (fun _ _ => rfl))))
  (Evl.pss_cut (ps_setLc (i := 18) (own := [("k", 23)]) (g := gName 23) (tt := tYes) rfl sc_law.nd rfl rfl (sw_true rfl rfl rfl (by decide +kernel)) (piL (K := K) rfl (pv 14)) (blkOk_by (N := n_law) (sc := defScope s_law) (by decide +kernel)) (fun _ _ _ _ _ => (pg_name (i := 23) sc_law.nd rfl (.inl rfl))) (fun _ _ _ _ _ => pts_nil) (fun _ _ _ _ _ => (pe_ifExp (pt_cmpR op_isN (pv 23) pe_non (nomark _)) pe_non (pe_ix (ixL (K := K) rfl) (pv 7) (pv 23) (fun _ _ => rfl)))))
  (pss_cons (ps_if (pt_not (pt_val (pe_h h_law_same hr pass0 (pa_cons (pe_tup (pa_cons (fldK (K := K) rfl (pv 16) rfl) (pa_cons (fldK (K := K) rfl (pv 16) rfl) (pa_cons (pe_cmpR (op_eqO (j := 7) h_GEq hr (by decide)) (fldK (K := K) rfl (pv 16) rfl) (fldK (K := K) rfl (pv 15) rfl) (nomark _)) (pa_cons (pe_cmpR (op_eqO (j := 7) h_GEq hr (by decide)) (fldK (K := K) rfl (pv 16) rfl) (pv 9) (nomark _)) pa_nil))))) (pa_cons (pe_tup (pa_cons (pe_callTy (tupK (K := K) rfl) rfl B.tuple (by decide +kernel) (pa_cons (pv 17) pa_nil)) (pa_cons (pe_callTy (tupK (K := K) rfl) rfl B.tuple (by decide +kernel) (pa_cons (pv 18) pa_nil)) (pa_cons pe_bl (pa_cons pe_bl pa_nil))))) pa_nil))))) (pss_one (ps_ret pe_bl)) pss_nil)
  (pss_cons (ps_set (i := 19) sc_law.nd rfl (.inl rfl) (pe_callTy (tupK (K := K) rfl) rfl B.tuple (by decide +kernel) (pa_cons (pe_lc (own := [("at", 22)]) (g := gName 22) (tt := tYes) rfl sc_law.nd (pi_range1 rfl B.range (pa_cons (pv 11) pa_nil)) (blkOk_by (N := n_law) (sc := defScope s_law) (by decide +kernel)) (fun _ _ _ _ _ => (pg_name (i := 22) sc_law.nd rfl (.inl rfl))) (fun _ _ _ _ _ => pts_nil) (fun _ _ _ _ _ => (pe_op op_mul (pe_ix (ixT (K := K) rfl) (fldK (K := K) rfl (pv 15) rfl) (pv 22) (fun _ _ => rfl)) (pe_ix (ixT (K := K) rfl) (fldK (K := K) rfl (pv 10) rfl) (pe_ix (ixL (K := K) rfl) (pv 13) (pv 22) (fun _ _ => rfl)) (fun _ _ => rfl))))) pa_nil)))
  (Evl.pss_cut (ps_if (pt_not (pt_val (pe_h h_law_same hr pass0 (pa_cons (pe_tup (pa_cons (fldK (K := K) rfl (pv 16) rfl) (pa_cons (fldK (K := K) rfl (pv 16) rfl) pa_nil))) (pa_cons (pe_tup (pa_cons (pv 19) (pa_cons (pe_op op_mul (fldK (K := K) rfl (pv 15) rfl) (fldK (K := K) rfl (pv 10) rfl)) pa_nil))) pa_nil))))) (pss_one (ps_ret pe_bl)) pss_nil)
  (pss_cons (ps_if (pt_not (pt_val (pe_h h_law_is_branched hr pass0 (pa_cons (pv 16) (pa_cons (pv 11) (pa_cons (pv 12) (pa_cons (pv 2) (pa_cons (pv 3) (pa_cons (pv 17) (pa_cons (pv 18) pa_nil)))))))))) (pss_one (ps_ret pe_bl)) pss_nil)
  (Evl.pss_cut (ps_par (i := 20) (j := 21) rfl sc_law.nd rfl rfl (by decide) rfl rfl (pa_cons (pe_h h_law_great_row hr pass0 (pa_cons (pv 1) (pa_cons (pv 11) (pa_cons pe_int pa_nil)))) (pa_cons (pe_h h_law_great_row hr pass0 (pa_cons (pv 1) (pa_cons (pv 2) (pa_cons pe_int pa_nil)))) pa_nil)) rfl)
  (pss_cons (ps_if (pt_not (pt_val (pe_h h_law_same hr pass0 (pa_cons (pe_tup (pa_cons (pe_h h_pushed hr pass0 (pa_cons (pv 16) (pa_cons (pv 20) pa_nil))) (pa_cons (pe_h h_pulled hr pass0 (pa_cons (pv 16) (pa_cons (pv 21) pa_nil))) pa_nil))) (pa_cons (pe_tup (pa_cons (pe_h h_pushed hr pass0 (pa_cons (pv 10) (pa_cons (pe_h h_pushed hr pass0 (pa_cons (pv 15) (pa_cons (pv 20) pa_nil))) pa_nil))) (pa_cons (pe_h h_pulled hr pass0 (pa_cons (pv 15) (pa_cons (pe_h h_pulled hr pass0 (pa_cons (pv 10) (pa_cons (pv 21) pa_nil))) pa_nil))) pa_nil))) pa_nil))))) (pss_one (ps_ret pe_bl)) pss_nil)
  (pss_cons (ps_if (PW.pt (pw_and (pt_cmpR op_eq (pv 4) (pv 2) (nomark _)) (pw_and1 (pt_cmpR (op_eqDK (K := K) rfl hr.units) (pv 5) (pv 3) (nomark _))))) (pss_one (ps_ret pe_bl)) pss_nil)
  (pss_one (ps_ret (pe_h h_law_same hr pass0 (pa_cons (pe_h h_law_fault hr pass0 (pa_cons (pv 10) (pa_cons (pv 10) pa_nil))) (pa_cons (pe_tup (pa_cons pe_str (pa_cons pe_bl (pa_cons pe_str (pa_cons pe_non pa_nil))))) pa_nil)))))))))))))))))))))))))), ?_⟩
    refine ⟨_, rfl, a, ns, rfl, ha, hl, fun H1 p s1 hp1 => ?_⟩
    -- the goal
    refine ⟨_, rfl, p, 4, 2, rfl, hp1, by decide, by decide, by decide, by decide, fun H2 t l gn ges s2 ht ⟨ws, hw1, hw2⟩ good lex g2 ⟨_, g4⟩ gl8 gl1 => ?_⟩
    refine ⟨t, _, rfl, SqT.of ht, rfl, _, _, rfl, _, _, rfl, rfl, ?_⟩
    have hp2 := hp1.same s2
    -- the map
    refine ⟨_, rfl, _, rfl, _, rfl, _, rfl, p, 3, rfl, hp2, by decide, by decide, fun r r0 r1 => ?_⟩
    obtain ⟨k0, rfl⟩ : ∃ k : Nat, r = k := ⟨r.toNat, by omega⟩
    refine ⟨_, _, rfl, rfl, ?_⟩
    obtain ⟨d, hd⟩ : ∃ d, d = k0 + 1 := ⟨_, rfl⟩
    have e1k : V.int (1 + (k0 : Int)) = nV d := congrArg V.int (by omega)
    have hd1 : 1 ≤ d := by omega
    have hd3 : d ≤ 3 := by omega
    have g4 : gn ≤ 4 := by omega
    have hgd : gn * (d + 1) ≤ 4 * 4 := Nat.mul_le_mul g4 (by omega)
    have hged : ges.length * d ≤ 8 * 3 := Nat.mul_le_mul gl8 hd3
    refine ⟨p, l, gn, d, ges, congrArg (fun z => [V.ref p, nV gn, V.ref l, z]) e1k, hp2, ⟨ws, hw1, hw2⟩, good, g2, hd1, by omega, by omega, fun H3 t3 eL nL iL N es nm im s3 ht3 ⟨us, hu1, hu2⟩ hnm him mok hN100 hNb heb => ?_⟩
    refine ⟨t3, _, rfl, SqT.of ht3, rfl, _, _, rfl, _, _, rfl, _, _, rfl, _, _, rfl, rfl, ?_⟩
    have hp3 := hp2.same s3
    have hNN : N * N ≤ 16 * 16 := Nat.mul_le_mul (by omega) (by omega)
    have hN2 : 2 ≤ N := map_N2 mok good g2 hd1
    have hE400 : es.length ≤ 400 := by omega
    refine nx_ ?_
    -- the graphs
    refine ⟨_, rfl, _, rfl, ?_⟩
    intro g dx0 nx0 ndx0 ne0
    have sn0 := new_sameO (C := C) nx0 ndx0
    refine ⟨g, dx0, eL, N, us, es, rfl, upd_same, sn0 _ _ hu1, hu2.same sn0, mok.good, by omega, by omega, by omega, fun H4 es1 kd bt ga pm hx nk hk => ⟨rfl, ?_⟩⟩
    have s4 : Same H3 H4 := fun b o e => bt _ _ (ne_of_none e nx0) (sn0 _ _ e)
    obtain rfl : es1 = es := lex_uniq pm hx mok.lex
    have k14 : Kpt H4 C g kd N es1 := ⟨⟨⟨kd, ga⟩, mok.good, by omega, by omega, by omega, hx⟩, ga, [], hk, .inl rfl⟩
    clear bt ga pm nk nx0 ndx0 ne0 sn0
    have hw14 := s4 _ _ (s3 _ _ hw1)
    have hw24 := (hw2.same s3).same s4
    refine ⟨_, rfl, _, rfl, ?_⟩
    intro g' dx0 nx0 ndx0 ne0
    have sn0 := new_sameO (C := C) nx0 ndx0
    refine ⟨g', dx0, l, gn, ws, ges, rfl, upd_same, sn0 _ _ hw14, hw24.same sn0, good, by omega, by omega, by omega, fun H5 ges1 kd2 bt ga pm hx' nk hk2 => ⟨rfl, ?_⟩⟩
    have s5 : Same H4 H5 := fun b o e => bt _ _ (ne_of_none e nx0) (sn0 _ _ e)
    have nek : kd ≠ kd2 := fun z => by rw [← z, sn0 _ _ hk] at nk; cases nk
    obtain rfl : ges1 = ges := lex_uniq pm hx' lex
    have k25 : Kpt H5 C g' kd2 gn ges1 := ⟨⟨⟨kd2, ga⟩, good, by omega, by omega, by omega, hx'⟩, ga, [], hk2, .inl rfl⟩
    have k15 := k14.same s5
    clear bt ga pm nk nx0 ndx0 ne0 sn0 k14 hk hk2
    have s35 := s4.trans s5
    have hp5 := hp3.same s35
    have hnm5 := s35 _ _ hnm
    have him5 := s35 _ _ him
    have hu5 : PLst H5 eL es1 := ⟨us, s35 _ _ hu1, hu2.same s35⟩
    have hw5 : PLst H5 l ges1 := ⟨ws, s5 _ _ hw14, hw24.same s5⟩
    clear s35 s5 s4 s3 s2 s1 hw14 hw24 hnm him hu1 hu2 hw1 hw2 hp1 hp2 hp3 ht ht3
    refine ⟨_, _, rfl, ?_⟩
    refine nx_ ?_
    -- the second map
    have hN64 : N ≤ 64 := by omega
    have eF := map_fault mok (fun e he => (good.1 e he).1) g2
    refine ⟨fun σ' H' => ∃ x2, σ' = [some (.ref a), some (.ref p), some (nV gn), some (.ref l), some (nV N), some (.ref eL), some (.ref nL), some (.ref iL), some (.ref g), some (.ref g'), some (.ref x2), none, none, none, none, none, none, none, none, none, none, none, none, none] ∧ SecAt K H' C CM p g g' kd kd2 x2 eL l nL iL N gn es1 ges1 nm im (shOf es1 im ges1 nm N), ?_, ?_⟩
    · refine ⟨_, rfl, _, rfl, _, rfl, _, rfl, ?_⟩
      intro x2 dx2 nx2 ndx2 ne2
      have snF := new_sameO (C := CM) nx2 ndx2
      refine ⟨H5, x2, dx2, g, g', N, gn, es1, ges1, .ref nL, .ref iL, _, _, rfl, snF, nx2, upd_same, k15.1, k25.1, .inl (.lst (SqL.of hnm5) (dp_nats nm)), .inl (.lst (SqL.of him5) (dp_opts im)), fun H6 s6 hf gm => ⟨rfl, ?_⟩, fun H6 l' r num s6 _ hf _ => ?_⟩
      · rw [pl_of, im_of] at gm
        exact ⟨x2, rfl, hp5.same s6, k15.same s6, k25.same s6, gm, hu5.same s6, hw5.same s6, s6 _ _ hnm5, s6 _ _ him5⟩
      · rw [eF] at hf
        cases hf
    clear hp5 hnm5 him5 hu5 hw5 k15 k25
    rintro σ H6 ⟨x2, rfl, sc⟩
    have br2 := map_br mok good g2 gl1 hE400
    -- is_branched(second)
    refine ⟨_, rfl, _, rfl, _, rfl, _, rfl, _, rfl, _, rfl, _, rfl, ?_⟩
    refine ⟨x2, eL, l, nL, iL, g, g', kd, kd2, N, gn, es1, ges1, nm, im, _, rfl, sc.gm, sc.k1, sc.k2, nek, sc.pe, sc.pg, sc.pn, sc.pi, g2, br2, fun H7 b7 k1' k2' => ?_⟩
    have sc7 := sc.kp (kp_two sc.k1 sc.k2 k1' k2' b7) k1' k2'
    clear sc b7 k1' k2'
    refine ⟨_, rfl, iteF ?_⟩
    -- the zero map
    have mz : MapOk gn ges1 0 N es1 (List.replicate N 0) (List.replicate es1.length none) := map_zero mok.good mok.lex g2
    have eZ := map_fault mz (fun e he => (good.1 e he).1) g2
    have brz := map_br mz good g2 gl1 hE400
    refine ⟨fun σ' H' => σ' = [some (.ref a), some (.ref p), some (nV gn), some (.ref l), some (nV N), some (.ref eL), some (.ref nL), some (.ref iL), some (.ref g), some (.ref g'), some (.ref x2), none, none, none, none, none, none, none, none, none, none, none, none, none] ∧ SecAt K H' C CM p g g' kd kd2 x2 eL l nL iL N gn es1 ges1 nm im (shOf es1 im ges1 nm N), ?_, ?_⟩
    · obtain ⟨us, hus, pus⟩ := sc7.pe
      refine ⟨_, rfl, _, rfl, by show 1 ≤ sizeLine; decide, fun r1 nr1 => ?_⟩
      have t1 : Same H7 (upd H7 r1 (.lst [.int 0])) := same_upd nr1
      have hr1 : (upd H7 r1 (.lst [.int 0])) r1 = some (.lst [.int 0]) := upd_same
      generalize upd H7 r1 (.lst [.int 0]) = G1 at t1 hr1 ⊢
      refine ⟨_, rfl, rep_ hr1 (by omega) fun z1 G2 t2 _ hz1 => ?_⟩
      refine ⟨by show 1 ≤ sizeLine; decide, fun r2 nr2 => ?_⟩
      have t3 : Same G2 (upd G2 r2 (.lst [.non])) := same_upd nr2
      have hr2 : (upd G2 r2 (.lst [.non])) r2 = some (.lst [.non]) := upd_same
      generalize upd G2 r2 (.lst [.non]) = G3 at t3 hr2 ⊢
      have t13 := t1.trans (t2.trans t3)
      refine ⟨_, rfl, tNil_ ?_⟩
      refine len_ (t13 _ _ hus) pus.len (rep_ hr2 (by omega) fun z2 G4 t4 _ hz2 => ?_)
      have hz14 := (t3.trans t4) _ _ hz1
      rw [show (List.replicate N (V.int 0)) = (List.replicate N 0).map nV from by rw [List.map_replicate]; rfl] at hz14
      rw [show (List.replicate es1.length V.non) = (List.replicate es1.length none).map optV from by rw [List.map_replicate]; rfl] at hz2
      have sc4 := sc7.same (t13.trans t4)
      intro xz dxz nxz ndxz nez
      have snF := new_sameO (C := CM) nxz ndxz
      refine ⟨G4, xz, dxz, g, g', N, gn, es1, ges1, .ref z1, .ref z2, _, _, rfl, snF, nxz, upd_same, sc4.k1.1, sc4.k2.1, .inl (.lst (SqL.of hz14) (dp_nats _)), .inl (.lst (SqL.of hz2) (dp_opts _)), fun G5 t5 hf gm => ?_, fun G5 l' r num t5 _ hf _ => ?_⟩
      · rw [pl_of, im_of] at gm
        have sc5 := sc4.same t5
        refine ⟨rfl, _, rfl, _, rfl, _, rfl, _, rfl, by show 1 ≤ sizeLine; decide, fun r3 nr3 => ?_⟩
        have t6 : Same G5 (upd G5 r3 (.lst [.int 0])) := same_upd nr3
        have hr3 : (upd G5 r3 (.lst [.int 0])) r3 = some (.lst [.int 0]) := upd_same
        generalize upd G5 r3 (.lst [.int 0]) = G6 at t6 hr3 ⊢
        refine ⟨_, rfl, rep_ hr3 (by omega) fun y1 G7 t7 _ hy1 => ?_⟩
        refine ⟨by show 1 ≤ sizeLine; decide, fun r4 nr4 => ?_⟩
        have t8 : Same G7 (upd G7 r4 (.lst [.non])) := same_upd nr4
        have hr4 : (upd G7 r4 (.lst [.non])) r4 = some (.lst [.non]) := upd_same
        generalize upd G7 r4 (.lst [.non]) = G8 at t8 hr4 ⊢
        have t58 := t6.trans (t7.trans t8)
        refine ⟨_, rfl, tNil_ ?_⟩
        refine len_ ((t13.trans (t4.trans (t5.trans t58))) _ _ hus) pus.len (rep_ hr4 (by omega) fun y2 G9 t9 _ hy2 => ?_)
        have hy19 := (t8.trans t9) _ _ hy1
        rw [show (List.replicate N (V.int 0)) = (List.replicate N 0).map nV from by rw [List.map_replicate]; rfl] at hy19
        rw [show (List.replicate es1.length V.non) = (List.replicate es1.length none).map optV from by rw [List.map_replicate]; rfl] at hy2
        have t59 := t58.trans t9
        have sc9 := sc5.same t59
        refine ⟨xz, eL, l, y1, y2, g, g', kd, kd2, N, gn, es1, ges1, _, _, _, rfl, gm.same t59, sc9.k1, sc9.k2, nek, sc9.pe, sc9.pg, hy19, hy2, g2, brz, fun G10 b10 k1' k2' => ?_⟩
        exact ⟨_, rfl, iteF ⟨rfl, sc9.kp (kp_two sc9.k1 sc9.k2 k1' k2' b10) k1' k2'⟩⟩
      · rw [eZ] at hf
        cases hf
    clear mz eZ brz sc7
    rintro σ H8 ⟨rfl, sc8⟩
    -- the map over the graph
    refine ⟨_, rfl, _, rfl, _, rfl, _, rfl, p, 2, rfl, sc8.pool, by decide, by decide, fun r r0 r1 => ?_⟩
    obtain ⟨k1, rfl⟩ : ∃ k : Nat, r = k := ⟨r.toNat, by omega⟩
    refine ⟨_, _, rfl, rfl, ?_⟩
    obtain ⟨d1, hd1'⟩ : ∃ d, d = k1 + 1 := ⟨_, rfl⟩
    have e2k : V.int (1 + (k1 : Int)) = nV d1 := congrArg V.int (by omega)
    have hd11 : 1 ≤ d1 := by omega
    have hd12 : d1 ≤ 2 := by omega
    have hN16 : N ≤ 16 := by omega
    have hNd : N * (d1 + 1) ≤ 16 * 3 := Nat.mul_le_mul hN16 (by omega)
    have hEd : es1.length * d1 ≤ 400 * 2 := Nat.mul_le_mul hE400 hd12
    refine ⟨p, eL, N, d1, es1, congrArg (fun z => [V.ref p, nV N, V.ref eL, z]) e2k, sc8.pool, sc8.pe, mok.good, hN2, hd11, by omega, by omega, fun H9 t9 mL nmL mkL M ms nm1 im1 s9 ht9 ⟨us, hu1, hu2⟩ hnm1 him1 mok1 hM100 hMb _ => ?_⟩
    refine ⟨t9, _, rfl, SqT.of ht9, rfl, _, _, rfl, _, _, rfl, _, _, rfl, _, _, rfl, rfl, ?_⟩
    have sc9 := sc8.same s9
    refine nx_ ?_
    refine ⟨_, rfl, _, _, rfl, rfl, _, rfl, ifD (fun _ => iteT (q _)) (fun h60 => ?_)⟩
    refine ⟨_, rfl, tNil_ ?_⟩
    refine len_ hu1 hu2.len ⟨_, _, rfl, rfl, _, rfl, ifD (fun _ => q _) (fun h390 => ?_)⟩
    have h60 : M ≤ 60 := by omega
    have h390 : ms.length ≤ 390 := by omega
    have e1 := (map_N mok hd1 gl1).1
    have hM2 : 2 ≤ M := map_N2 mok1 mok.good hN2 hd11
    have eF1 := map_fault mok1 (fun e he => (mok.good.1 e he).1) hN2
    have br1 := map_br mok1 mok.good hN2 e1 (by omega)
    -- the first map
    refine ⟨fun σ' H' => ∃ x1 g3 kd3, kd3 ≠ kd ∧ kd3 ≠ kd2 ∧ σ' = [some (.ref a), some (.ref p), some (nV gn), some (.ref l), some (nV N), some (.ref eL), some (.ref nL), some (.ref iL), some (.ref g), some (.ref g'), some (.ref x2), some (nV M), some (.ref mL), some (.ref nmL), some (.ref mkL), some (.ref x1), none, none, none, none, none, none, none, none] ∧ FstAt K H' C CM p g g' kd kd2 x2 eL l nL iL N gn es1 ges1 nm im (shOf es1 im ges1 nm N) g3 kd3 x1 mL nmL mkL M ms nm1 im1 (shOf ms im1 es1 nm1 M), ?_, ?_⟩
    · refine ⟨_, rfl, _, rfl, ?_⟩
      intro g3 dx0 nx0 ndx0 ne0
      have sn0 := new_sameO (C := C) nx0 ndx0
      refine ⟨g3, dx0, mL, M, us, ms, rfl, upd_same, sn0 _ _ hu1, hu2.same sn0, mok1.good, by omega, by omega, by omega, fun H10 ms1 kd3 bt ga pm hx nk hk => ⟨rfl, ?_⟩⟩
      have s10 : Same H9 H10 := fun b o e => bt _ _ (ne_of_none e nx0) (sn0 _ _ e)
      obtain rfl : ms1 = ms := lex_uniq pm hx mok1.lex
      have k3 : Kpt H10 C g3 kd3 M ms1 := ⟨⟨⟨kd3, ga⟩, mok1.good, by omega, by omega, by omega, hx⟩, ga, [], hk, .inl rfl⟩
      have nd : ∀ {k : Addr} {gx : Addr} {nx : Nat} {ex : List Pr}, Kpt H9 C gx k nx ex → kd3 ≠ k := fun {k gx nx ex} hk z => by
        obtain ⟨_, _, ks, hks, _⟩ := hk
        rw [z, sn0 _ _ hks] at nk
        cases nk
      have nd1 := nd sc9.k1
      have nd2 := nd sc9.k2
      have sc10 := sc9.same s10
      have hn10 := s10 _ _ hnm1
      have hi10 := s10 _ _ him1
      refine ⟨_, rfl, _, rfl, _, rfl, ?_⟩
      intro x1 dx1 nx1 ndx1 nex1
      have snF := new_sameO (C := CM) nx1 ndx1
      refine ⟨H10, x1, dx1, g3, g, M, N, ms1, es1, .ref nmL, .ref mkL, _, _, rfl, snF, nx1, upd_same, k3.1, sc10.k1.1, .inl (.lst (SqL.of hn10) (dp_nats _)), .inl (.lst (SqL.of hi10) (dp_opts _)), fun H11 s11 hf gm => ⟨rfl, ?_⟩, fun H11 l' r num s11 _ hf _ => ?_⟩
      · rw [pl_of, im_of] at gm
        exact ⟨x1, g3, kd3, nd1, nd2, rfl, sc10.same s11, k3.same s11, gm, ⟨us, (s10.trans s11) _ _ hu1, hu2.same (s10.trans s11)⟩, s11 _ _ hn10, s11 _ _ hi10⟩
      · rw [eF1] at hf
        cases hf
    clear hu1 hu2 hnm1 him1 sc9 ht9 sc8 s9
    rintro σ H10 ⟨x1, g3, kd3, nd1, nd2, rfl, fc⟩
    -- is_branched(first)
    refine ⟨_, rfl, _, rfl, _, rfl, _, rfl, _, rfl, _, rfl, _, rfl, ?_⟩
    refine ⟨x1, mL, eL, nmL, mkL, g3, g, kd3, kd, M, N, ms, es1, nm1, im1, _, rfl, fc.gm1, fc.k3, fc.s.k1, nd1, fc.pm, fc.s.pe, fc.pn1, fc.pi1, hN2, br1, fun H11 b11 k3' k1' => ?_⟩
    have kp11 := kp_two fc.k3 fc.s.k1 k3' k1' b11
    have fc11 := fc.kp kp11 k1' (fc.s.k2.but kp11 fun o e => b11 _ _ (fun z => z.elim (fun z => nd2 z.symm) fun z => nek z.symm) e) k3'
    clear kp11 b11 k3' k1' fc
    refine ⟨_, rfl, iteF ?_⟩
    -- both
    have mok3 := comp_ok mok1 mok mok.good hN2 good g2
    have eF3 := map_fault mok3 (fun e he => (good.1 e he).1) g2
    have br3 := map_br mok3 good g2 gl1 (by omega)
    refine ⟨fun σ' H' => ∃ x3, σ' = [some (.ref a), some (.ref p), some (nV gn), some (.ref l), some (nV N), some (.ref eL), some (.ref nL), some (.ref iL), some (.ref g), some (.ref g'), some (.ref x2), some (nV M), some (.ref mL), some (.ref nmL), some (.ref mkL), some (.ref x1), some (.ref x3), none, none, none, none, none, none, none] ∧ FstAt K H' C CM p g g' kd kd2 x2 eL l nL iL N gn es1 ges1 nm im (shOf es1 im ges1 nm N) g3 kd3 x1 mL nmL mkL M ms nm1 im1 (shOf ms im1 es1 nm1 M) ∧ GMap K H' CM x3 g3 g' (compP nm nm1) (compI im im1) (shOf ms (compI im im1) ges1 (compP nm nm1) M), ?_, ?_⟩
    · refine ⟨_, rfl, _, rfl, ?_⟩
      refine ⟨x1, x2, g3, g, g, g', nm1, nm, im1, im, _, _, M, N, N, gn, ms, es1, es1, ges1, rfl, fc11.gm1, fc11.s.gm, fc11.k3.1, fc11.s.k1.1, fc11.s.k1.1, fc11.s.k2.1, by rw [mok1.lnm]; omega, by rw [mok1.lim]; omega, fun _ => ⟨?_, ?_, eF3⟩, fun H12 x3 s12 _ gm3 => ?_, fun _ _ _ _ ne _ => absurd ⟨rfl, rfl⟩ ne⟩
      · rw [mok.lnm]; exact mok1.bnm
      · rw [mok.lim]; exact br1.bim
      · exact ⟨x3, rfl, fc11.same s12, gm3⟩
    rintro σ H12 ⟨x3, rfl, fc12, gm3⟩
    clear fc11
    -- due_places, due_edges
    have hnml : nm1.length = M := mok1.lnm
    have himl : im1.length = ms.length := mok1.lim
    have b1 : ∀ p ∈ nm1, p < N := mok1.bnm
    refine ⟨_, rfl, nmL, rfl, ⟨_, SqL.of fc12.pn1⟩, fun X nX => ?_⟩
    refine lc_list (K := K) (a := nmL) (xs := nm1.map nV) (fun i H' => Same H12 H' ∧ H' X = some (.lst ((compP nm (nm1.take i)).map nV))) ⟨same_upd nX, upd_same⟩ (fun i H' _ p => SqL.of (p.1 _ _ fc12.pn1)) ?_ ?_
    · rintro i x H13 hx ⟨s13, hX⟩
      rw [List.getElem?_map] at hx
      obtain ⟨o, ho, rfl⟩ := Option.map_eq_some_iff.mp hx
      have hi : i < nm1.length := (List.getElem?_eq_some_iff.mp ho).1
      have hoN : o < nm.length := by rw [mok.lnm]; exact b1 _ (List.mem_of_getElem? ho)
      refine ⟨rfl, yes_ ?_⟩
      refine ⟨_, rfl, _, rfl, _, _, o, _, rfl, rfl, SqL.of (s13 _ _ fc12.s.pn), atI_nat (map_n hoN), _, hX, size_lt ?_, same_mut s13 nX, ?_⟩
      · unfold compP
        rw [List.length_map, List.length_map, List.length_take]; omega
      · rw [upd_same, List.take_add_one, ho]
        unfold compP
        rw [List.map_append, List.map_append]; rfl
    rintro H13 ⟨s13, hX⟩
    rw [List.length_map, List.take_length] at hX
    refine ⟨fun σ' H' => ∃ Y, σ' = [some (.ref a), some (.ref p), some (nV gn), some (.ref l), some (nV N), some (.ref eL), some (.ref nL), some (.ref iL), some (.ref g), some (.ref g'), some (.ref x2), some (nV M), some (.ref mL), some (.ref nmL), some (.ref mkL), some (.ref x1), some (.ref x3), some (.ref X), some (.ref Y), none, none, none, none, none] ∧ FstAt K H' C CM p g g' kd kd2 x2 eL l nL iL N gn es1 ges1 nm im (shOf es1 im ges1 nm N) g3 kd3 x1 mL nmL mkL M ms nm1 im1 (shOf ms im1 es1 nm1 M) ∧ GMap K H' CM x3 g3 g' (compP nm nm1) (compI im im1) (shOf ms (compI im im1) ges1 (compP nm nm1) M) ∧ H' X = some (.lst ((compP nm nm1).map nV)) ∧ H' Y = some (.lst ((compI im im1).map optV)), ?_, ?_⟩
    · refine ⟨_, rfl, mkL, rfl, ⟨_, SqL.of (s13 _ _ fc12.pi1)⟩, fun Y nY => ?_⟩
      refine lc_list (K := K) (a := mkL) (xs := im1.map optV) (fun i H' => Same H13 H' ∧ H' Y = some (.lst ((compI im (im1.take i)).map optV))) ⟨same_upd nY, upd_same⟩ (fun i H' _ p => SqL.of ((s13.trans p.1) _ _ fc12.pi1)) ?_ ?_
      · rintro i x H14 hx ⟨s14, hY⟩
        rw [List.getElem?_map] at hx
        obtain ⟨o, ho, rfl⟩ := Option.map_eq_some_iff.mp hx
        have hi : i < im1.length := (List.getElem?_eq_some_iff.mp ho).1
        have hlen : ((compI im (im1.take i)).map optV).length < sizeLine := size_lt (by
          unfold compI
          rw [List.length_map, List.length_map, List.length_take]; omega)
        refine ⟨rfl, yes_ ?_⟩
        cases o with
        | none =>
          refine ⟨_, rfl, rfl, _, rfl, iteT ⟨_, hY, hlen, same_mut s14 nY, ?_⟩⟩
          rw [upd_same, List.take_add_one, ho]
          unfold compI
          rw [List.map_append, List.map_append]; rfl
        | some k =>
          have hk := br1.bim k (List.mem_of_getElem? ho)
          have hk2 : k < im.length := by rw [mok.lim]; exact hk
          have hg : (im.map optV)[k]? = some (optV (im.getD k none)) := by
            rw [List.getElem?_map, List.getD_eq_getElem?_getD, List.getElem?_eq_getElem hk2]; rfl
          refine ⟨_, rfl, rfl, _, rfl, iteF ?_⟩
          refine ⟨_, rfl, _, rfl, _, _, k, _, rfl, rfl, SqL.of ((s13.trans s14) _ _ fc12.s.pi), atI_nat hg, _, hY, hlen, same_mut s14 nY, ?_⟩
          rw [upd_same, List.take_add_one, ho]
          unfold compI
          rw [List.map_append, List.map_append]; rfl
      · rintro H14 ⟨s14, hY⟩
        rw [List.length_map, List.take_length] at hY
        have s24 := s13.trans s14
        exact ⟨Y, rfl, fc12.same s24, gm3.same s24, s14 _ _ hX, hY⟩
    clear hX s13 fc12 gm3
    rintro σ H14 ⟨Y, rfl, fc, gm3, hX, hY⟩
    have lcp : (compP nm nm1).length = M := mok3.lnm
    have lci : (compI im im1).length = ms.length := mok3.lim
    -- the first question
    have gm30 := gm3
    obtain ⟨dx3, pT3, eT3, sT3, f31, f32, f33, f34⟩ := gm30
    have gm10 := fc.gm1
    obtain ⟨dx1, pT1, eT1, sT1, f11, f12, f13, f14⟩ := gm10
    have gA := fc.k3.1
    have gB := fc.s.k2.1
    obtain ⟨⟨_, dg, eg, vg, hg, _, _⟩, _⟩ := fc.k3.1
    obtain ⟨⟨_, dg2, eg2, vg2, hg2, _, _⟩, _⟩ := fc.s.k2.1
    refine ⟨_, rfl, x3, CM, dx3, _, _, rfl, f31, GM.cls, GM.places, rfl, ?_⟩
    refine ⟨_, rfl, x3, CM, dx3, _, _, rfl, f31, GM.cls, GM.edges, rfl, ?_⟩
    refine ⟨_, rfl, x3, CM, dx3, _, _, rfl, f31, GM.cls, GM.graph, rfl, _, rfl, x1, CM, dx1, _, _, rfl, f11, GM.cls, GM.graph, rfl, g3, g3, _, _, _, _, rfl, rfl, hg, hg, ⟨g3, g3, M, M, ms, ms, rfl, gA, gA, ⟨_, rfl⟩, ?_⟩⟩
    rw [decide_eq_true (show M = M ∧ ms = ms from ⟨rfl, rfl⟩)]
    refine ⟨_, rfl, x3, CM, dx3, _, _, rfl, f31, GM.cls, GM.goal, rfl, _, rfl, g', g', _, _, _, _, rfl, rfl, hg2, hg2, ⟨g', g', gn, gn, ges1, ges1, rfl, gB, gB, ⟨_, rfl⟩, ?_⟩⟩
    rw [decide_eq_true (show gn = gn ∧ ges1 = ges1 from ⟨rfl, rfl⟩)]
    refine ⟨by show 4 ≤ sizeLine; decide, fun Z nZ => ?_⟩
    have sZ : Same H14 (upd H14 Z (.tup [.ref pT3, .ref eT3, .bl true, .bl true])) := same_upd nZ
    have dZ : Dp K (upd H14 Z (.tup [.ref pT3, .ref eT3, .bl true, .bl true])) (.ref Z) (.tuple [.tuple ((compP nm nm1).map fun p : Nat => PyData.int (p : Int)), .tuple ((compI im im1).map optP), .bool true, .bool true]) := .tup (SqT.of upd_same) (.cons (.tup (Same.seqT sZ f32) (dp_nats _)) (.cons (.tup (Same.seqT sZ f33) (dp_opts _)) (.cons (.bl _) (.cons (.bl _) .nil))))
    generalize upd H14 Z (.tup [.ref pT3, .ref eT3, .bl true, .bl true]) = H15 at sZ dZ ⊢
    refine ⟨_, rfl, X, _, rfl, .inl ⟨SqL.of (sZ _ _ hX), fun l1 nl1 => ?_⟩⟩
    have sl1 : Same H15 (upd H15 l1 (.tup ((compP nm nm1).map nV))) := same_upd nl1
    have hl1 : (upd H15 l1 (.tup ((compP nm nm1).map nV))) l1 = some (.tup ((compP nm nm1).map nV)) := upd_same
    generalize upd H15 l1 (.tup ((compP nm nm1).map nV)) = H16 at sl1 hl1 ⊢
    refine ⟨_, rfl, Y, _, rfl, .inl ⟨SqL.of ((sZ.trans sl1) _ _ hY), fun l2 nl2 => ?_⟩⟩
    have sl2 : Same H16 (upd H16 l2 (.tup ((compI im im1).map optV))) := same_upd nl2
    have hl2 : (upd H16 l2 (.tup ((compI im im1).map optV))) l2 = some (.tup ((compI im im1).map optV)) := upd_same
    generalize upd H16 l2 (.tup ((compI im im1).map optV)) = H17 at sl2 hl2 ⊢
    refine ⟨by show 4 ≤ sizeLine; decide, fun Z2 nZ2 => ?_⟩
    have sZ2 : Same H17 (upd H17 Z2 (.tup [.ref l1, .ref l2, .bl true, .bl true])) := same_upd nZ2
    have dZ2 : Dp K (upd H17 Z2 (.tup [.ref l1, .ref l2, .bl true, .bl true])) (.ref Z2) (.tuple [.tuple ((compP nm nm1).map fun p : Nat => PyData.int (p : Int)), .tuple ((compI im im1).map optP), .bool true, .bool true]) := .tup (SqT.of upd_same) (.cons (.tup (SqT.of (sZ2 _ _ (sl2 _ _ hl1))) (dp_nats _)) (.cons (.tup (SqT.of (sZ2 _ _ hl2)) (dp_opts _)) (.cons (.bl _) (.cons (.bl _) .nil))))
    generalize upd H17 Z2 (.tup [.ref l1, .ref l2, .bl true, .bl true]) = H18 at sZ2 dZ2 ⊢
    refine ⟨.ref Z, .ref Z2, _, rfl, Dp.same (sl1.trans (sl2.trans sZ2)) dZ, dZ2, ⟨by show 4 ≤ 100000; decide, fun d hd => ?_⟩, fun H19 s19 => ?_⟩
    · simp only [List.mem_cons, List.not_mem_nil, or_false] at hd
      rcases hd with rfl | rfl | rfl | rfl
      · exact fit_natsT (by omega)
      · exact fit_optsT (by omega)
      · exact True.intro
      · exact True.intro
    have s1419 := sZ.trans (sl1.trans (sl2.trans (sZ2.trans s19)))
    refine ⟨_, rfl, iteF ?_⟩
    have fc := fc.same s1419
    have gm3 := gm3.same s1419
    have hX := s1419 _ _ hX
    have hY := s1419 _ _ hY
    clear hg hg2 hl1 hl2 f31 f32 f33 f34 f11 f12 f13 f14 gA gB sZ sl1 sl2 sZ2 s19 s1419 dZ dZ2
    -- sheets
    have gm30 := gm3
    obtain ⟨dx3, pT3, eT3, sT3, f31, f32, f33, f34⟩ := gm30
    have gm10 := fc.gm1
    obtain ⟨dx1, pT1, eT1, sT1, f11, f12, f13, f14⟩ := gm10
    have gm20 := fc.s.gm
    obtain ⟨dx2, pT2, eT2, sT2, f21, f22, f23, f24⟩ := gm20
    have lsh1 : (shOf ms im1 es1 nm1 M).length = M := by unfold shOf; rw [List.length_map, List.length_range]
    have lsh2 : (shOf es1 im ges1 nm N).length = N := by unfold shOf; rw [List.length_map, List.length_range]
    have lsh3 : (shOf ms (compI im im1) ges1 (compP nm nm1) M).length = M := by unfold shOf; rw [List.length_map, List.length_range]
    have hpl : ∀ i, i < M → gd nm1 i < N := fun i hi => b1 _ (gd_mem (by omega))
    have bgd : ∀ {l : List Nat} (i : Nat), (∀ s ∈ l, s ≤ 1000) → i < l.length → gd l i ≤ 1000 := fun {l} i h hi => h _ (gd_mem hi)
    refine nx_ ?_
    refine ⟨_, rfl, _, rfl, by omega, by omega, fun S0 nS => ?_⟩
    refine lc_range (lo := 0) (n := M) (fun i H' => Same H19 H' ∧ H' S0 = some (.lst (((List.range i).map fun v => gd (shOf ms im1 es1 nm1 M) v * gd (shOf es1 im ges1 nm N) (gd nm1 v)).map nV))) ⟨same_upd nS, upd_same⟩ ?_ ?_
    · rintro i H20 hi ⟨s20, hS⟩
      rw [zintn]
      have q1 := bgd (l := shOf ms im1 es1 nm1 M) i br1.bsh (by omega)
      have q2 := bgd (l := shOf es1 im ges1 nm N) (gd nm1 i) br2.bsh (by rw [lsh2]; exact hpl i hi)
      refine ⟨rfl, yes_ ?_⟩
      refine ⟨_, rfl, x1, CM, dx1, _, _, rfl, s20 _ _ f11, GM.cls, GM.sheets, rfl, _, rfl, _, _, i, _, rfl, rfl, Same.seqT s20 f14, atI_nat (map_n (by omega)), ?_⟩
      refine ⟨_, rfl, x2, CM, dx2, _, _, rfl, s20 _ _ f21, GM.cls, GM.sheets, rfl, _, rfl, _, rfl, _, _, i, _, rfl, rfl, SqL.of (s20 _ _ fc.pn1), atI_nat (map_n (by omega)), ?_⟩
      refine ⟨_, _, gd nm1 i, _, rfl, rfl, Same.seqT s20 f24, atI_nat (map_n (by rw [lsh2]; exact hpl i hi)), ?_⟩
      have q1 : (shOf ms im1 es1 nm1 M).getD i 0 ≤ 1000 := q1
      refine ⟨_, _, rfl, rfl, .inl ⟨by omega, by omega⟩, ?_⟩
      refine ⟨_, hS, size_lt (by rw [List.length_map, List.length_map, List.length_range]; omega), same_mut s20 nS, ?_⟩
      rw [upd_same, List.range_succ, List.map_append, List.map_append]
      show some (HO.lst (_ ++ [V.int ((((shOf ms im1 es1 nm1 M).getD i 0 : Nat) : Int) * (((shOf es1 im ges1 nm N).getD (gd nm1 i) 0 : Nat) : Int))])) = some (HO.lst (_ ++ [V.int (((gd (shOf ms im1 es1 nm1 M) i * gd (shOf es1 im ges1 nm N) (gd nm1 i) : Nat)) : Int)]))
      rw [Int.natCast_mul]; rfl
    rintro H20 ⟨s20, hS⟩
    have esh : ((List.range M).map fun v => gd (shOf ms im1 es1 nm1 M) v * gd (shOf es1 im ges1 nm N) (gd nm1 v)) = shOf ms (compI im im1) ges1 (compP nm nm1) M := by
      refine List.ext_getElem (by rw [List.length_map, List.length_range, lsh3]) fun i h1 h2 => ?_
      rw [List.getElem_map, List.getElem_range]
      rw [lsh3] at h2
      have := comp_sh mok1 mok mok.good hN2 good g2 h2
      rw [← this]
      unfold gd
      rw [List.getD_eq_getElem?_getD, List.getElem?_eq_getElem (by omega)]; rfl
    rw [esh] at hS
    refine ⟨S0, _, rfl, .inl ⟨SqL.of hS, fun T nT => ?_⟩⟩
    have sT : Same H20 (upd H20 T (.tup ((shOf ms (compI im im1) ges1 (compP nm nm1) M).map nV))) := same_upd nT
    have hT : (upd H20 T (.tup ((shOf ms (compI im im1) ges1 (compP nm nm1) M).map nV))) T = some (.tup ((shOf ms (compI im im1) ges1 (compP nm nm1) M).map nV)) := upd_same
    generalize upd H20 T (.tup ((shOf ms (compI im im1) ges1 (compP nm nm1) M).map nV)) = H21 at sT hT ⊢
    have s21 := s20.trans sT
    refine nx_ ?_
    refine ⟨fun σ' H' => σ' = [some (.ref a), some (.ref p), some (nV gn), some (.ref l), some (nV N), some (.ref eL), some (.ref nL), some (.ref iL), some (.ref g), some (.ref g'), some (.ref x2), some (nV M), some (.ref mL), some (.ref nmL), some (.ref mkL), some (.ref x1), some (.ref x3), some (.ref X), some (.ref Y), some (.ref T), none, none, none, none] ∧ Same H21 H', ?_, ?_⟩
    · refine ⟨_, rfl, x3, CM, dx3, _, _, rfl, s21 _ _ f31, GM.cls, GM.sheets, rfl, ?_⟩
      refine ⟨_, rfl, x3, CM, dx3, _, _, rfl, s21 _ _ f31, GM.cls, GM.degree, rfl, ?_⟩
      refine ⟨by show 2 ≤ sizeLine; decide, fun Z nZ => ?_⟩
      have hdg3 : degOf (compI im im1) = d1 * d := mok3.deg 0 (by omega)
      have hdg1 : degOf im1 = d1 := mok1.deg 0 (by omega)
      have hdg2 : degOf im = d := mok.deg 0 (by omega)
      have sZ : Same H21 (upd H21 Z (.tup [.ref sT3, nV (degOf (compI im im1))])) := same_upd nZ
      have dZ : Dp K (upd H21 Z (.tup [.ref sT3, nV (degOf (compI im im1))])) (.ref Z) (.tuple [.tuple ((shOf ms (compI im im1) ges1 (compP nm nm1) M).map fun p : Nat => PyData.int (p : Int)), .int (((d1 * d : Nat)) : Int)]) := .tup (SqT.of upd_same) (.cons (.tup (Same.seqT (s21.trans sZ) f34) (dp_nats _)) (.cons (by rw [hdg3]; exact .int _) .nil))
      generalize upd H21 Z (.tup [.ref sT3, nV (degOf (compI im im1))]) = H22 at sZ dZ ⊢
      have s22 := s21.trans sZ
      refine ⟨_, rfl, _, rfl, x1, CM, dx1, _, _, rfl, s22 _ _ f11, GM.cls, GM.degree, rfl, _, rfl, x2, CM, dx2, _, _, rfl, s22 _ _ f21, GM.cls, GM.degree, rfl, ?_⟩
      refine ⟨_, _, rfl, rfl, .inl ⟨by omega, by omega⟩, ?_⟩
      rw [hdg1, hdg2]
      refine ⟨by show 2 ≤ sizeLine; decide, fun Z2 nZ2 => ?_⟩
      have sZ2 : Same H22 (upd H22 Z2 (.tup [.ref T, .int ((d1 : Int) * (d : Int))])) := same_upd nZ2
      have dZ2 : Dp K (upd H22 Z2 (.tup [.ref T, .int ((d1 : Int) * (d : Int))])) (.ref Z2) (.tuple [.tuple ((shOf ms (compI im im1) ges1 (compP nm nm1) M).map fun p : Nat => PyData.int (p : Int)), .int (((d1 * d : Nat)) : Int)]) := .tup (SqT.of upd_same) (.cons (.tup (SqT.of ((sZ.trans sZ2) _ _ hT)) (dp_nats _)) (.cons (by rw [Int.natCast_mul]; exact .int _) .nil))
      refine ⟨.ref Z, .ref Z2, _, rfl, Dp.same sZ2 dZ, dZ2, ⟨by show 2 ≤ 100000; decide, fun d hd => ?_⟩, fun H23 s23 => ⟨_, rfl, iteF ⟨rfl, sZ.trans (sZ2.trans s23)⟩⟩⟩
      simp only [List.mem_cons, List.not_mem_nil, or_false] at hd
      rcases hd with rfl | rfl
      · exact fit_natsT (by omega)
      · exact True.intro
    rintro σ H22 ⟨rfl, s22⟩
    have s1922 := s21.trans s22
    have fc := fc.same s1922
    have gm3 := gm3.same s1922
    have hX := s1922 _ _ hX
    have hY := s1922 _ _ hY
    clear f31 f32 f33 f34 f11 f12 f13 f14 f21 f22 f23 f24 hS hT s20 sT s21 s22 s1922
    -- is_branched(both)
    refine ⟨_, rfl, _, rfl, _, rfl, _, rfl, _, rfl, _, rfl, _, rfl, ?_⟩
    refine ⟨x3, mL, l, X, Y, g3, g', kd3, kd2, M, gn, ms, ges1, compP nm nm1, compI im im1, _, rfl, gm3, fc.k3, fc.s.k2, nd2, fc.pm, fc.s.pg, hX, hY, g2, br3, fun H23 b23 k3' k2' => ?_⟩
    have kp23 := kp_two fc.k3 fc.s.k2 k3' k2' b23
    have fc23 := fc.kp kp23 (fc.s.k1.but kp23 fun o e => b23 _ _ (fun z => z.elim (fun z => nd1 z.symm) fun z => nek z) e) k2' k3'
    have gm323 := kp23.gmap gm3
    clear kp23 b23 k3' k2' fc gm3 hX hY
    refine ⟨_, rfl, iteF ?_⟩
    -- chips, other
    refine ⟨fun σ' H' => ∃ (cL oL : Addr) (cs os : List Int), σ' = [some (.ref a), some (.ref p), some (nV gn), some (.ref l), some (nV N), some (.ref eL), some (.ref nL), some (.ref iL), some (.ref g), some (.ref g'), some (.ref x2), some (nV M), some (.ref mL), some (.ref nmL), some (.ref mkL), some (.ref x1), some (.ref x3), some (.ref X), some (.ref Y), some (.ref T), some (.ref cL), some (.ref oL), none, none] ∧ Same H23 H' ∧ H' cL = some (.lst (cs.map V.int)) ∧ H' oL = some (.lst (os.map V.int)) ∧ cs.length = M ∧ os.length = gn, ?_, ?_⟩
    · refine ⟨_, rfl, _, rfl, p, M, rfl, fc23.s.pool, by omega, fun H24 cL cs s24 hcL lcs => ?_⟩
      refine ⟨_, rfl, _, rfl, p, gn, rfl, (fc23.same s24).s.pool, by omega, fun H25 oL os s25 hoL los => ?_⟩
      exact ⟨_, _, rfl, cL, oL, cs, os, rfl, s24.trans s25, s25 _ _ hcL, hoL, lcs, los⟩
    rintro σ H24 ⟨cL, oL, cs, os, rfl, s24, hcL, hoL, lcs, los⟩
    have fc := fc23.same s24
    have gm3 := gm323.same s24
    clear fc23 gm323 s24
    -- pushed, pulled
    have bsh1 : ∀ s ∈ shOf ms im1 es1 nm1 M, s ≤ 100000 := fun s hs => Nat.le_trans (br1.bsh s hs) (by decide)
    have bsh2 : ∀ s ∈ shOf es1 im ges1 nm N, s ≤ 100000 := fun s hs => Nat.le_trans (br2.bsh s hs) (by decide)
    have bsh3 : ∀ s ∈ shOf ms (compI im im1) ges1 (compP nm nm1) M, s ≤ 100000 := fun s hs => Nat.le_trans (br3.bsh s hs) (by decide)
    refine ⟨_, rfl, _, rfl, x3, cL, g3, g', compP nm nm1, _, _, M, gn, ms, ges1, cs, rfl, gm3, fc.k3.1, fc.s.k2.1, .inl (SqL.of hcL), lcs, lcp, br3.bnm, fun H25 l1 s25 hl1 => ?_⟩
    refine ⟨_, rfl, _, rfl, x3, oL, g3, g', compP nm nm1, _, _, gn, ges1, os, rfl, gm3.same s25, fc.s.k2.1.same s25, .inl (SqL.of (s25 _ _ hoL)), los, by rw [lsh3, lcp], br3.bnm, bsh3, by omega, fun H26 l2 s26 hl2 => ?_⟩
    refine ⟨by show 2 ≤ sizeLine; decide, fun Z nZ => ?_⟩
    have sZ : Same H26 (upd H26 Z (.tup [.ref l1, .ref l2])) := same_upd nZ
    have dZ : Dp K (upd H26 Z (.tup [.ref l1, .ref l2])) (.ref Z) (.tuple [.tuple ((pushL gn (compP nm nm1) cs).map PyData.int), .tuple ((pullL (shOf ms (compI im im1) ges1 (compP nm nm1) M) (compP nm nm1) os).map PyData.int)]) := .tup (SqT.of upd_same) (.cons (.tup (SqT.of ((s26.trans sZ) _ _ hl1)) (dp_intsT _)) (.cons (.tup (SqT.of (sZ _ _ hl2)) (dp_intsT _)) .nil))
    generalize upd H26 Z (.tup [.ref l1, .ref l2]) = H27 at sZ dZ ⊢
    have s2427 := s25.trans (s26.trans sZ)
    have fc7 := fc.same s2427
    have l1l : (pushL N nm1 cs).length = N := by unfold pushL; rw [List.length_map, List.length_range]
    have l2l : (pullL (shOf es1 im ges1 nm N) nm os).length = N := by unfold pullL; rw [List.length_map, List.length_range]; exact mok.lnm
    refine ⟨_, rfl, _, rfl, _, rfl, x1, cL, g3, g, nm1, _, _, M, N, ms, es1, cs, rfl, fc7.gm1, fc7.k3.1, fc7.s.k1.1, .inl (SqL.of (s2427 _ _ hcL)), lcs, hnml, b1, fun H28 l3 s28 hl3 => ?_⟩
    refine tNil_ ?_
    refine ⟨x2, l3, g, g', nm, _, _, N, gn, es1, ges1, _, rfl, fc7.s.gm.same s28, fc7.s.k1.1.same s28, fc7.s.k2.1.same s28, .inr (SqT.of hl3), l1l, mok.lnm, br2.bnm, fun H29 l4 s29 hl4 => ?_⟩
    have s279 := s28.trans s29
    have fc9 := fc7.same s279
    refine ⟨_, rfl, _, rfl, _, rfl, x2, oL, g, g', nm, _, _, gn, ges1, os, rfl, fc9.s.gm, fc9.s.k2.1, .inl (SqL.of ((s2427.trans s279) _ _ hoL)), los, by rw [lsh2, mok.lnm], br2.bnm, bsh2, by rw [mok.lnm]; omega, fun H30 l5 s30 hl5 => ?_⟩
    refine tNil_ ?_
    refine ⟨x1, l5, g3, g, nm1, _, _, N, es1, _, rfl, fc9.gm1.same s30, fc9.s.k1.1.same s30, .inr (SqT.of hl5), l2l, by rw [lsh1, hnml], b1, bsh1, by omega, fun H31 l6 s31 hl6 => ?_⟩
    refine ⟨by show 2 ≤ sizeLine; decide, fun Z2 nZ2 => ?_⟩
    have sZ2 : Same H31 (upd H31 Z2 (.tup [.ref l4, .ref l6])) := same_upd nZ2
    have s2931 := s30.trans s31
    have dZ2 : Dp K (upd H31 Z2 (.tup [.ref l4, .ref l6])) (.ref Z2) (.tuple [.tuple ((pushL gn (compP nm nm1) cs).map PyData.int), .tuple ((pullL (shOf ms (compI im im1) ges1 (compP nm nm1) M) (compP nm nm1) os).map PyData.int)]) := by
      rw [comp_push mok1 mok, comp_pull mok1 mok mok.good hN2 good g2]
      exact .tup (SqT.of upd_same) (.cons (.tup (SqT.of ((s2931.trans sZ2) _ _ hl4)) (dp_intsT _)) (.cons (.tup (SqT.of (sZ2 _ _ hl6)) (dp_intsT _)) .nil))
    generalize upd H31 Z2 (.tup [.ref l4, .ref l6]) = H32 at sZ2 dZ2 ⊢
    have s2732 := s279.trans (s2931.trans sZ2)
    refine ⟨.ref Z, .ref Z2, _, rfl, Dp.same s2732 dZ, dZ2, ⟨by show 2 ≤ 100000; decide, fun d hd => ?_⟩, fun H33 s33 => ⟨_, rfl, iteF ?_⟩⟩
    · simp only [List.mem_cons, List.not_mem_nil, or_false] at hd
      rcases hd with rfl | rfl
      · exact fit_intsT (by unfold pushL; rw [List.length_map, List.length_range]; omega)
      · exact fit_intsT (by unfold pullL; rw [List.length_map, List.length_range]; omega)
    have fc33 := fc7.same (s2732.trans s33)
    refine nx_ ?_
    clear dZ dZ2 hl1 hl2 hl3 hl4 hl5 hl6 hcL hoL s2732 s2931 s2427 s279
    -- the same graph
    have fin : ¬ (gn = N ∧ ges1 = es1) → ∀ H', Same H33 H' → tRet (tCall (spSame K 3) [] E0 (tCons (tCall (spLF K C CM) [] E0 (tCons (tVar 10) (tCons (tVar 10) tNil))) (tCons (tTup (tCons (tC (V.str "raised")) (tCons (tC (V.bl true)) (tCons (tC (V.str "goal")) (tCons (tC V.non) tNil))))) tNil))) { nx := fun x H' => Q V.non H', rt := Q } [some (.ref a), some (.ref p), some (nV gn), some (.ref l), some (nV N), some (.ref eL), some (.ref nL), some (.ref iL), some (.ref g), some (.ref g'), some (.ref x2), some (nV M), some (.ref mL), some (.ref nmL), some (.ref mkL), some (.ref x1), some (.ref x3), some (.ref X), some (.ref Y), some (.ref T), some (.ref cL), some (.ref oL), none, none] H' := fun ne H' sm => by
      have fc' := fc33.same sm
      refine ⟨_, rfl, _, rfl, x2, g, g', nm, _, _, N, gn, es1, ges1, rfl, fc'.s.gm, fc'.s.k1.1, fc'.s.k2.1, by rw [mok.lnm]; omega, by rw [mok.lim]; omega, ne, fun H2' y s2 dy => ?_⟩
      refine ⟨by show 4 ≤ sizeLine; decide, fun W nW => ?_⟩
      have sW : Same H2' (upd H2' W (.tup [.str "raised", .bl true, .str "goal", .non])) := same_upd nW
      refine ⟨y, .ref W, _, rfl, Dp.same sW dy, .tup (SqT.of upd_same) (.cons (.str _) (.cons (.bl _) (.cons (.str _) (.cons .non .nil)))), ⟨by show 4 ≤ 100000; decide, fun d hd => ?_⟩, fun _ _ => q _⟩
      simp only [List.mem_cons, List.not_mem_nil, or_false] at hd
      rcases hd with rfl | rfl | rfl | rfl <;> exact True.intro
    refine ⟨_, rfl, _, rfl, rfl, _, rfl, ifD (fun e => ?_) (fun ne => ?_)⟩
    · have e : N = gn := by
        have e : nV N = nV gn := e
        injection e with e; omega
      obtain ⟨us1, hu1, hu2⟩ := fc33.s.pe
      obtain ⟨us2, hw1, hw2⟩ := fc33.s.pg
      refine ⟨_, rfl, _, rfl, edL es1, edL ges1, .lst (SqL.of hu1) (prs_dp hu2), .lst (SqL.of hw1) (prs_dp hw2), shaped_edL _, shaped_edL _, _, rfl, ?_⟩
      rw [eqv_edL]
      refine ifD (fun e2 => q _) (fun ne2 => ?_)
      exact fin (fun z => ne2 z.2.symm) _ (Same.refl _)
    · refine iteF ?_
      exact fin (fun z => ne (congrArg nV z.1.symm)) _ (Same.refl _)
end
end G3

set_option Elab.async false
set_option linter.all false
set_option maxRecDepth 100000
set_option maxHeartbeats 2000000
namespace G3
open PySem PySem.Spec PyProof.Rows L2
section
variable {P : Program} {w : World} {K : PySem.W.Frag} {mg : Str → Option Value} {base : Heap}
abbrev n_is_whole_at4 : List Str := ["value"]
abbrev p_is_whole_at4 : List Str := ["value"]
theorem sc_is_whole_at4 : FnScope n_is_whole_at4 p_is_whole_at4 (defScope s_is_whole_at4) := ⟨rfl, rfl, rfl, by decide +kernel, rfl, by decide +kernel, by decide +kernel⟩
theorem ok_is_whole_s {x : Str} (D : DefAt K mg x "is_whole" s_is_whole_at4) (B : Bt mg) : Has P w K mg base CX0 1 x p_is_whole (spIsI K) := by
  refine has_of D sc_is_whole_at4 (fun _ _ _ _ _ _ us hl => match us, hl with | [_], _ => rfl) (fun vs H Q E h => ?_) (fun f cdv A outer s H vs Q E hr h => ?_)
  · obtain ⟨x, d, rfl, _⟩ := h
    rfl
  · obtain ⟨x, d, rfl, hd, q⟩ := h
    refine ⟨_, (pss_one (ps_ret (pe_and (pe_callB (isiK (K := K) rfl) rfl B.isinstance (by decide +kernel) (pa_cons (pv 0) (pa_cons (pe_bltn (v := .ty "int") (u := .type "int") rfl B.int (by decide +kernel) rfl) pa_nil))) (pe_one (pe_not (pe_callB (isiK (K := K) rfl) rfl B.isinstance (by decide +kernel) (pa_cons (pv 0) (pa_cons (pe_bltn (v := .ty "bool") (u := .type "bool") rfl B.bool (by decide +kernel) rfl) pa_nil)))))))), ?_⟩
    have ty := Dp.ty hd
    refine ⟨_, rfl, _, _, _, _, _, rfl, .ty _, ty, kt_int d, _, rfl, ?_⟩
    cases hd with
    | non => exact iteF q
    | bl b => exact iteT ⟨_, rfl, _, _, _, _, _, rfl, .ty _, ty, kt_bool _, _, rfl, q⟩
    | int i => exact iteT ⟨_, rfl, _, _, _, _, _, rfl, .ty _, ty, kt_bool _, _, rfl, q⟩
    | str x => exact iteF q
    | lst _ _ => exact iteF q
    | tup _ _ => exact iteF q
end
end G3

set_option Elab.async false
set_option linter.all false
set_option maxRecDepth 100000
set_option maxHeartbeats 0
namespace G3
open PySem PySem.Spec PyProof.Rows L2
abbrev RR : PySem.W.OpenRow := PySem.W.OpenLaw.row PySem.Challenge.rw_chipsproved_k73_whole_branch_rows
def d_told_sum : He.DefD := ⟨("told_sum", none), "told_sum", "told_sum", defArgs (top 6), defBody (top 6), defScope (top 6), [], []⟩
def d_is_whole_sums : He.DefD := ⟨("is_whole_sums", none), "is_whole", "is_whole", defArgs (top 4), defBody (top 4), defScope (top 4), [], []⟩
def d_pulled : He.DefD := ⟨("pulled", none), "pulled", "pulled", defArgs (top 30), defBody (top 30), defScope (top 30), [], []⟩
def d_spread : He.DefD := ⟨("spread", none), "spread", "spread", defArgs (top 29), defBody (top 29), defScope (top 29), [], []⟩
def d_pushed : He.DefD := ⟨("pushed", none), "pushed", "pushed", defArgs (top 28), defBody (top 28), defScope (top 28), [], []⟩
def d_gathered : He.DefD := ⟨("gathered", none), "gathered", "gathered", defArgs (top 27), defBody (top 27), defScope (top 27), [], []⟩
def d_told_sheets : He.DefD := ⟨("told_sheets", none), "told_sheets", "told_sheets", defArgs (top 25), defBody (top 25), defScope (top 25), [], []⟩
def d_counted : He.DefD := ⟨("counted", none), "counted", "counted", defArgs (top 24), defBody (top 24), defScope (top 24), [], []⟩
def d_told_edges : He.DefD := ⟨("told_edges", none), "told_edges", "told_edges", defArgs (top 23), defBody (top 23), defScope (top 23), [], []⟩
def d_is_over : He.DefD := ⟨("is_over", none), "is_over", "is_over", defArgs (top 22), defBody (top 22), defScope (top 22), [], []⟩
def d_is_whole_graphs : He.DefD := ⟨("is_whole_graphs", none), "is_whole", "is_whole", defArgs (top 11), defBody (top 11), defScope (top 11), [], []⟩
def d_told_places : He.DefD := ⟨("told_places", none), "told_places", "told_places", defArgs (top 21), defBody (top 21), defScope (top 21), [], []⟩
def d_map_after : He.DefD := ⟨("map_after", none), "map_after", "map_after", defArgs (top 32), defBody (top 32), defScope (top 32), [], []⟩
def d_branch_row : He.DefD := ⟨("branch_row", none), "branch_row", "branch_row", defArgs (top 31), defBody (top 31), defScope (top 31), [], []⟩
def d_laplace : He.DefD := ⟨("laplace", none), "laplace", "laplace", defArgs (top 16), defBody (top 16), defScope (top 16), [], []⟩
def d_valences : He.DefD := ⟨("valences", none), "valences", "valences", defArgs (top 18), defBody (top 18), defScope (top 18), [], []⟩
def d_edge_fault : He.DefD := ⟨("edge_fault", none), "edge_fault", "edge_fault", defArgs (top 13), defBody (top 13), defScope (top 13), [], []⟩
def d_together : He.DefD := ⟨("together", none), "together", "together", defArgs (top 14), defBody (top 14), defScope (top 14), [], []⟩
def d_law_pool : He.DefD := ⟨("_law_pool", none), "_law_pool", "_law_pool", defArgs (top 34), defBody (top 34), defScope (top 34), [], []⟩
def d_law_take : He.DefD := ⟨("_law_take", none), "_law_take", "_law_take", defArgs (top 35), defBody (top 35), defScope (top 35), [], []⟩
def d_law_pick : He.DefD := ⟨("_law_pick", none), "_law_pick", "_law_pick", defArgs (top 36), defBody (top 36), defScope (top 36), [], []⟩
def d_law_is_integer : He.DefD := ⟨("_law_is_integer", none), "_law_is_integer", "_law_is_integer", defArgs (top 37), defBody (top 37), defScope (top 37), [], []⟩
def d_law_same : He.DefD := ⟨("_law_same", none), "_law_same", "_law_same", defArgs (top 38), defBody (top 38), defScope (top 38), [], []⟩
def d_law_below : He.DefD := ⟨("_law_below", none), "_law_below", "_law_below", defArgs (top 39), defBody (top 39), defScope (top 39), [], []⟩
def d_law_order : He.DefD := ⟨("_law_order", none), "_law_order", "_law_order", defArgs (top 40), defBody (top 40), defScope (top 40), [], []⟩
def d_law_power : He.DefD := ⟨("_law_power", none), "_law_power", "_law_power", defArgs (top 41), defBody (top 41), defScope (top 41), [], []⟩
def d_law_graph : He.DefD := ⟨("_law_graph", none), "_law_graph", "_law_graph", defArgs (top 42), defBody (top 42), defScope (top 42), [], []⟩
def d_law_all_pairs : He.DefD := ⟨("_law_all_pairs", none), "_law_all_pairs", "_law_all_pairs", defArgs (top 43), defBody (top 43), defScope (top 43), [], []⟩
def d_law_table : He.DefD := ⟨("_law_table", none), "_law_table", "_law_table", defArgs (top 44), defBody (top 44), defScope (top 44), [], []⟩
def d_law_great_row : He.DefD := ⟨("_law_great_row", none), "_law_great_row", "_law_great_row", defArgs (top 45), defBody (top 45), defScope (top 45), [], []⟩
def d_law_pieces : He.DefD := ⟨("_law_pieces", none), "_law_pieces", "_law_pieces", defArgs (top 46), defBody (top 46), defScope (top 46), [], []⟩
def d_law_sheets : He.DefD := ⟨("_law_sheets", none), "_law_sheets", "_law_sheets", defArgs (top 47), defBody (top 47), defScope (top 47), [], []⟩
def d_law_map : He.DefD := ⟨("_law_map", none), "_law_map", "_law_map", defArgs (top 48), defBody (top 48), defScope (top 48), [], []⟩
def d_law_counts : He.DefD := ⟨("_law_counts", none), "_law_counts", "_law_counts", defArgs (top 49), defBody (top 49), defScope (top 49), [], []⟩
def d_law_goal : He.DefD := ⟨("_law_goal", none), "_law_goal", "_law_goal", defArgs (top 50), defBody (top 50), defScope (top 50), [], []⟩
def d_law_sheets_of : He.DefD := ⟨("_law_sheets_of", none), "_law_sheets_of", "_law_sheets_of", defArgs (top 51), defBody (top 51), defScope (top 51), [], []⟩
def d_law_fault : He.DefD := ⟨("_law_fault", none), "_law_fault", "_law_fault", defArgs (top 52), defBody (top 52), defScope (top 52), [], []⟩
def d_law_is_branched : He.DefD := ⟨("_law_is_branched", none), "_law_is_branched", "_law_is_branched", defArgs (top 53), defBody (top 53), defScope (top 53), [], []⟩
def d_law : He.DefD := ⟨("law", none), "law", "law", defArgs (top 54), defBody (top 54), defScope (top 54), [], []⟩
def d_Graph___init__ : He.DefD := ⟨("Graph", some "__init__"), "__init__", "Graph.__init__", defArgs (inClass (top 15) 0), defBody (inClass (top 15) 0), defScope (inClass (top 15) 0), [], []⟩
def d_GraphMap___init__ : He.DefD := ⟨("GraphMap", some "__init__"), "__init__", "GraphMap.__init__", defArgs (inClass (top 26) 0), defBody (inClass (top 26) 0), defScope (inClass (top 26) 0), [], []⟩
def d_Graph___eq__ : He.DefD := ⟨("Graph", some "__eq__"), "__eq__", "Graph.__eq__", defArgs (inClass (top 15) 1), defBody (inClass (top 15) 1), defScope (inClass (top 15) 1), [], []⟩
def fn : List He.DefD := ([d_told_sum, d_is_whole_sums, d_pulled, d_spread, d_pushed, d_gathered, d_told_sheets, d_counted, d_told_edges, d_is_over, d_is_whole_graphs, d_told_places, d_map_after, d_branch_row, d_laplace, d_valences, d_edge_fault, d_together, d_law_pool, d_law_take, d_law_pick, d_law_is_integer, d_law_same, d_law_below, d_law_order] : List He.DefD) ++ ([d_law_power, d_law_graph, d_law_all_pairs, d_law_table, d_law_great_row, d_law_pieces, d_law_sheets, d_law_map, d_law_counts, d_law_goal, d_law_sheets_of, d_law_fault, d_law_is_branched, d_law, d_Graph___init__, d_GraphMap___init__, d_Graph___eq__] : List He.DefD)
def fa : List He.Fa := ([.meth "Graph" "__eq__", .glo "told_sum", .glo "is_whole_sums", .glo "pulled", .glo "spread", .glo "pushed", .glo "gathered", .glo "told_sheets", .glo "counted", .glo "told_edges", .glo "is_over", .glo "is_whole_graphs", .glo "told_places", .glo "map_after", .glo "branch_row", .glo "laplace", .glo "valences", .glo "edge_fault", .glo "together", .glo "_law_pool", .glo "_law_take", .glo "_law_pick", .glo "_law_is_integer", .glo "_law_same", .glo "_law_below"] : List He.Fa) ++ ([.glo "_law_order", .glo "_law_power", .glo "_law_graph", .glo "_law_all_pairs", .glo "_law_table", .glo "_law_great_row", .glo "_law_pieces", .glo "_law_sheets", .glo "_law_map", .glo "_law_counts", .glo "_law_goal", .glo "_law_sheets_of", .glo "_law_fault", .glo "_law_is_branched", .glo "law", .glo "Graph", .glo "GraphMap", .glo "BadGraphMap", .glo "ChipError", .free "len", .free "int", .free "list", .free "tuple", .free "range", .free "isinstance"] : List He.Fa) ++ ([.free "bool", .free "str", .free "all", .free "any", .free "min", .free "max", .free "sum", .free "enumerate", .free "zip", .free "sorted", .free "repr", .free "super", .free "ValueError", .int "MOST_PLACES" 64, .int "MOST_EDGES" 400, .cls "Graph", .mkr "Graph", .noat "Graph" "n", .noat "Graph" "edges", .noat "Graph" "genus", .noat "Graph" "kept", .cls "GraphMap", .mkr "GraphMap", .noat "GraphMap" "graph", .noat "GraphMap" "goal"] : List He.Fa) ++ ([.noat "GraphMap" "places", .noat "GraphMap" "edges", .noat "GraphMap" "sheets", .noat "GraphMap" "degree", .exm "BadGraphMap" "BadGraphMap" true] : List He.Fa)
def loose : List Str := (["ChipError", "BadSum", "is_whole", "is_whole_sums", "told_sum", "MOST_PLACES", "MOST_EDGES", "BadGraph", "is_whole_graphs", "edge_fault", "together", "Graph", "laplace", "valences", "BadGraphMap", "told_places", "is_over", "told_edges", "counted", "told_sheets", "GraphMap", "gathered", "pushed", "spread", "pulled"] : List Str) ++ (["branch_row", "map_after", "_law_pool", "_law_take", "_law_pick", "_law_is_integer", "_law_same", "_law_below", "_law_order", "_law_power", "_law_graph", "_law_all_pairs", "_law_table", "_law_great_row", "_law_pieces", "_law_sheets", "_law_map", "_law_counts", "_law_goal", "_law_sheets_of", "_law_fault", "_law_is_branched"] : List Str)
def sup : List Str := ["BadGraphMap"]
abbrev sB : Stmt := inClass (top 20) 0
def sv : List SupX.FnC := [some ((("__init__" : Str)), "BadGraphMap.__init__", defArgs sB, FuncBody.stmts (defBody sB), defScope sB, mainGlobals, builtinsNs)]
def kitB (K : PySem.W.Frag) (x : Str) (c : Value) : Bool := decide (PySem.W.kitOne K (.ref (He.ga K x)) c = some true)
def insB (K : PySem.W.Frag) (C : Addr) : Bool :=
  decide (PySem.W.findIn K (.ref C) "__class__" = some (some (.builtin "object.__class__"))) && (decide (PySem.W.specialIn K (.builtin "object.__class__") "__get__" = some (some (.builtin "getset_descriptor.__get__"))) &&
  (decide (PySem.W.takesIn K (.builtin "object.__class__") = some true) && (decide (PySem.W.mroIn K C (.type "object") = some true) && (decide (PySem.W.kitOne K (.ref C) (.ref C) = some true) && decide (PySem.W.findIn K (.ref C) "__ne__" = some (some (.builtin "object.__ne__")))))))
def mine (K : PySem.W.Frag) : Bool := SupRN.supB K (RR.prog.main.file : Str) "BadGraphMap" "BadGraphMap.__init__" && (kitB K "BadGraphMap" (.ref (He.ga K "ChipError")) && (kitB K "BadGraphMap" (.type "ValueError") && insB K (He.ga K "Graph")))
abbrev hk : PySem.W.Hook := SupX.hookX 6 fa fn sup sv mine
def ob (s : PySem.W.SharedT) : SupX.AlX := SupX.obsXG 6 fa fn sup mine (HandSHeadRun.getT s)
theorem ob_eq (s : PySem.W.SharedT) : ob s = hk.obs s.abs := SupX.obsXG_eq (HandSHeadRun.getT_eq s)
theorem run (w : World) : HandSHeadRun.RunEq RR (PySem.W.view RR.prog [54]) hk ob 20000 loose w := by
  intro os
  kernel_rfl
abbrev PP : Program := (PySem.Challenge.rw_chipsproved_k73_whole_branch_rows).prog
theorem formB : ∃ p1 p2 p3 q1 q2 q3 q4 qa q5 q6 q7 q8 q9 q10 qb qc qd qe, defArgs sB = SupRN.iA p1 p2 p3 ∧ defBody sB = SupRN.iB q1 q2 q3 q4 qa q5 q6 q7 q8 q9 q10 qb qc qd qe ∧ defScope sB = SupRN.iS ∧ (q3.endLine == q5.line) = true := ⟨_, _, _, _, _, _, _, _, _, _, _, _, _, _, _, _, _, _, rfl, rfl, rfl, rfl⟩
theorem noSuper : (PP.main.scope.names.lookup (Str.ofString "super")).isSome = false := by decide +kernel
theorem facts {w : World} {K : PySem.W.Frag} {h : Heap} {mg : Str → Option Value} (X : K.In h) (G : h.Ns mainGlobals mg) (hx : SupX.obsX fa fn sup mine K = SupX.valX fn sv) (base : Heap) : HasG PP w K mg base CX0 8 "law" p_law (spLaw K) := by
  obtain ⟨c, hm, hsv⟩ := SupX.saysX hx
  have e_Graph___eq__ := He.meth_ok (c.fact 0 (f := .meth "Graph" "__eq__") rfl)
  have g_told_sum := He.glo_ok X G (c.fact 1 (f := .glo "told_sum") rfl)
  have g_is_whole_sums := He.glo_ok X G (c.fact 2 (f := .glo "is_whole_sums") rfl)
  have g_pulled := He.glo_ok X G (c.fact 3 (f := .glo "pulled") rfl)
  have g_spread := He.glo_ok X G (c.fact 4 (f := .glo "spread") rfl)
  have g_pushed := He.glo_ok X G (c.fact 5 (f := .glo "pushed") rfl)
  have g_gathered := He.glo_ok X G (c.fact 6 (f := .glo "gathered") rfl)
  have g_told_sheets := He.glo_ok X G (c.fact 7 (f := .glo "told_sheets") rfl)
  have g_counted := He.glo_ok X G (c.fact 8 (f := .glo "counted") rfl)
  have g_told_edges := He.glo_ok X G (c.fact 9 (f := .glo "told_edges") rfl)
  have g_is_over := He.glo_ok X G (c.fact 10 (f := .glo "is_over") rfl)
  have g_is_whole_graphs := He.glo_ok X G (c.fact 11 (f := .glo "is_whole_graphs") rfl)
  have g_told_places := He.glo_ok X G (c.fact 12 (f := .glo "told_places") rfl)
  have g_map_after := He.glo_ok X G (c.fact 13 (f := .glo "map_after") rfl)
  have g_branch_row := He.glo_ok X G (c.fact 14 (f := .glo "branch_row") rfl)
  have g_laplace := He.glo_ok X G (c.fact 15 (f := .glo "laplace") rfl)
  have g_valences := He.glo_ok X G (c.fact 16 (f := .glo "valences") rfl)
  have g_edge_fault := He.glo_ok X G (c.fact 17 (f := .glo "edge_fault") rfl)
  have g_together := He.glo_ok X G (c.fact 18 (f := .glo "together") rfl)
  have g_law_pool := He.glo_ok X G (c.fact 19 (f := .glo "_law_pool") rfl)
  have g_law_take := He.glo_ok X G (c.fact 20 (f := .glo "_law_take") rfl)
  have g_law_pick := He.glo_ok X G (c.fact 21 (f := .glo "_law_pick") rfl)
  have g_law_is_integer := He.glo_ok X G (c.fact 22 (f := .glo "_law_is_integer") rfl)
  have g_law_same := He.glo_ok X G (c.fact 23 (f := .glo "_law_same") rfl)
  have g_law_below := He.glo_ok X G (c.fact 24 (f := .glo "_law_below") rfl)
  have g_law_order := He.glo_ok X G (c.fact 25 (f := .glo "_law_order") rfl)
  have g_law_power := He.glo_ok X G (c.fact 26 (f := .glo "_law_power") rfl)
  have g_law_graph := He.glo_ok X G (c.fact 27 (f := .glo "_law_graph") rfl)
  have g_law_all_pairs := He.glo_ok X G (c.fact 28 (f := .glo "_law_all_pairs") rfl)
  have g_law_table := He.glo_ok X G (c.fact 29 (f := .glo "_law_table") rfl)
  have g_law_great_row := He.glo_ok X G (c.fact 30 (f := .glo "_law_great_row") rfl)
  have g_law_pieces := He.glo_ok X G (c.fact 31 (f := .glo "_law_pieces") rfl)
  have g_law_sheets := He.glo_ok X G (c.fact 32 (f := .glo "_law_sheets") rfl)
  have g_law_map := He.glo_ok X G (c.fact 33 (f := .glo "_law_map") rfl)
  have g_law_counts := He.glo_ok X G (c.fact 34 (f := .glo "_law_counts") rfl)
  have g_law_goal := He.glo_ok X G (c.fact 35 (f := .glo "_law_goal") rfl)
  have g_law_sheets_of := He.glo_ok X G (c.fact 36 (f := .glo "_law_sheets_of") rfl)
  have g_law_fault := He.glo_ok X G (c.fact 37 (f := .glo "_law_fault") rfl)
  have g_law_is_branched := He.glo_ok X G (c.fact 38 (f := .glo "_law_is_branched") rfl)
  have g_law := He.glo_ok X G (c.fact 39 (f := .glo "law") rfl)
  have g_Graph := He.glo_ok X G (c.fact 40 (f := .glo "Graph") rfl)
  have g_GraphMap := He.glo_ok X G (c.fact 41 (f := .glo "GraphMap") rfl)
  have g_BadGraphMap := He.glo_ok X G (c.fact 42 (f := .glo "BadGraphMap") rfl)
  have g_ChipError := He.glo_ok X G (c.fact 43 (f := .glo "ChipError") rfl)
  have f_len := He.free_ok X G (c.fact 44 (f := .free "len") rfl)
  have f_int := He.free_ok X G (c.fact 45 (f := .free "int") rfl)
  have f_list := He.free_ok X G (c.fact 46 (f := .free "list") rfl)
  have f_tuple := He.free_ok X G (c.fact 47 (f := .free "tuple") rfl)
  have f_range := He.free_ok X G (c.fact 48 (f := .free "range") rfl)
  have f_isinstance := He.free_ok X G (c.fact 49 (f := .free "isinstance") rfl)
  have f_bool := He.free_ok X G (c.fact 50 (f := .free "bool") rfl)
  have f_str := He.free_ok X G (c.fact 51 (f := .free "str") rfl)
  have f_all := He.free_ok X G (c.fact 52 (f := .free "all") rfl)
  have f_any := He.free_ok X G (c.fact 53 (f := .free "any") rfl)
  have f_min := He.free_ok X G (c.fact 54 (f := .free "min") rfl)
  have f_max := He.free_ok X G (c.fact 55 (f := .free "max") rfl)
  have f_sum := He.free_ok X G (c.fact 56 (f := .free "sum") rfl)
  have f_enumerate := He.free_ok X G (c.fact 57 (f := .free "enumerate") rfl)
  have f_zip := He.free_ok X G (c.fact 58 (f := .free "zip") rfl)
  have f_sorted := He.free_ok X G (c.fact 59 (f := .free "sorted") rfl)
  have f_repr := He.free_ok X G (c.fact 60 (f := .free "repr") rfl)
  have f_super := He.free_ok X G (c.fact 61 (f := .free "super") rfl)
  have f_ValueError := He.free_ok X G (c.fact 62 (f := .free "ValueError") rfl)
  have i_MOST_PLACES := He.int_ok X G (c.fact 63 (f := .int "MOST_PLACES" 64) rfl)
  have i_MOST_EDGES := He.int_ok X G (c.fact 64 (f := .int "MOST_EDGES" 400) rfl)
  have c_Graph := He.cls_ok (c.fact 65 (f := .cls "Graph") rfl)
  have k_Graph := He.mkr_ok (c.fact 66 (f := .mkr "Graph") rfl)
  have n_Graph_n := He.noat_ok (c.fact 67 (f := .noat "Graph" "n") rfl)
  have n_Graph_edges := He.noat_ok (c.fact 68 (f := .noat "Graph" "edges") rfl)
  have n_Graph_genus := He.noat_ok (c.fact 69 (f := .noat "Graph" "genus") rfl)
  have n_Graph_kept := He.noat_ok (c.fact 70 (f := .noat "Graph" "kept") rfl)
  have c_GraphMap := He.cls_ok (c.fact 71 (f := .cls "GraphMap") rfl)
  have k_GraphMap := He.mkr_ok (c.fact 72 (f := .mkr "GraphMap") rfl)
  have n_GraphMap_graph := He.noat_ok (c.fact 73 (f := .noat "GraphMap" "graph") rfl)
  have n_GraphMap_goal := He.noat_ok (c.fact 74 (f := .noat "GraphMap" "goal") rfl)
  have n_GraphMap_places := He.noat_ok (c.fact 75 (f := .noat "GraphMap" "places") rfl)
  have n_GraphMap_edges := He.noat_ok (c.fact 76 (f := .noat "GraphMap" "edges") rfl)
  have n_GraphMap_sheets := He.noat_ok (c.fact 77 (f := .noat "GraphMap" "sheets") rfl)
  have n_GraphMap_degree := He.noat_ok (c.fact 78 (f := .noat "GraphMap" "degree") rfl)
  have x_BadGraphMap_BadGraphMap := He.exm_ok (c.fact 79 (f := .exm "BadGraphMap" "BadGraphMap" true) rfl)
  have D_told_sum : DefAt K mg "told_sum" "told_sum" (top 6) := by
    obtain ⟨fd, F⟩ := c.def_ 0 (d := d_told_sum) rfl
    exact ⟨_, fd, He5.fun_of F, g_told_sum⟩
  have D_is_whole_sums : DefAt K mg "is_whole_sums" "is_whole" (top 4) := by
    obtain ⟨fd, F⟩ := c.def_ 1 (d := d_is_whole_sums) rfl
    exact ⟨_, fd, He5.fun_of F, g_is_whole_sums⟩
  have D_pulled : DefAt K mg "pulled" "pulled" (top 30) := by
    obtain ⟨fd, F⟩ := c.def_ 2 (d := d_pulled) rfl
    exact ⟨_, fd, He5.fun_of F, g_pulled⟩
  have D_spread : DefAt K mg "spread" "spread" (top 29) := by
    obtain ⟨fd, F⟩ := c.def_ 3 (d := d_spread) rfl
    exact ⟨_, fd, He5.fun_of F, g_spread⟩
  have D_pushed : DefAt K mg "pushed" "pushed" (top 28) := by
    obtain ⟨fd, F⟩ := c.def_ 4 (d := d_pushed) rfl
    exact ⟨_, fd, He5.fun_of F, g_pushed⟩
  have D_gathered : DefAt K mg "gathered" "gathered" (top 27) := by
    obtain ⟨fd, F⟩ := c.def_ 5 (d := d_gathered) rfl
    exact ⟨_, fd, He5.fun_of F, g_gathered⟩
  have D_told_sheets : DefAt K mg "told_sheets" "told_sheets" (top 25) := by
    obtain ⟨fd, F⟩ := c.def_ 6 (d := d_told_sheets) rfl
    exact ⟨_, fd, He5.fun_of F, g_told_sheets⟩
  have D_counted : DefAt K mg "counted" "counted" (top 24) := by
    obtain ⟨fd, F⟩ := c.def_ 7 (d := d_counted) rfl
    exact ⟨_, fd, He5.fun_of F, g_counted⟩
  have D_told_edges : DefAt K mg "told_edges" "told_edges" (top 23) := by
    obtain ⟨fd, F⟩ := c.def_ 8 (d := d_told_edges) rfl
    exact ⟨_, fd, He5.fun_of F, g_told_edges⟩
  have D_is_over : DefAt K mg "is_over" "is_over" (top 22) := by
    obtain ⟨fd, F⟩ := c.def_ 9 (d := d_is_over) rfl
    exact ⟨_, fd, He5.fun_of F, g_is_over⟩
  have D_is_whole_graphs : DefAt K mg "is_whole_graphs" "is_whole" (top 11) := by
    obtain ⟨fd, F⟩ := c.def_ 10 (d := d_is_whole_graphs) rfl
    exact ⟨_, fd, He5.fun_of F, g_is_whole_graphs⟩
  have D_told_places : DefAt K mg "told_places" "told_places" (top 21) := by
    obtain ⟨fd, F⟩ := c.def_ 11 (d := d_told_places) rfl
    exact ⟨_, fd, He5.fun_of F, g_told_places⟩
  have D_map_after : DefAt K mg "map_after" "map_after" (top 32) := by
    obtain ⟨fd, F⟩ := c.def_ 12 (d := d_map_after) rfl
    exact ⟨_, fd, He5.fun_of F, g_map_after⟩
  have D_branch_row : DefAt K mg "branch_row" "branch_row" (top 31) := by
    obtain ⟨fd, F⟩ := c.def_ 13 (d := d_branch_row) rfl
    exact ⟨_, fd, He5.fun_of F, g_branch_row⟩
  have D_laplace : DefAt K mg "laplace" "laplace" (top 16) := by
    obtain ⟨fd, F⟩ := c.def_ 14 (d := d_laplace) rfl
    exact ⟨_, fd, He5.fun_of F, g_laplace⟩
  have D_valences : DefAt K mg "valences" "valences" (top 18) := by
    obtain ⟨fd, F⟩ := c.def_ 15 (d := d_valences) rfl
    exact ⟨_, fd, He5.fun_of F, g_valences⟩
  have D_edge_fault : DefAt K mg "edge_fault" "edge_fault" (top 13) := by
    obtain ⟨fd, F⟩ := c.def_ 16 (d := d_edge_fault) rfl
    exact ⟨_, fd, He5.fun_of F, g_edge_fault⟩
  have D_together : DefAt K mg "together" "together" (top 14) := by
    obtain ⟨fd, F⟩ := c.def_ 17 (d := d_together) rfl
    exact ⟨_, fd, He5.fun_of F, g_together⟩
  have D_law_pool : DefAt K mg "_law_pool" "_law_pool" (top 34) := by
    obtain ⟨fd, F⟩ := c.def_ 18 (d := d_law_pool) rfl
    exact ⟨_, fd, He5.fun_of F, g_law_pool⟩
  have D_law_take : DefAt K mg "_law_take" "_law_take" (top 35) := by
    obtain ⟨fd, F⟩ := c.def_ 19 (d := d_law_take) rfl
    exact ⟨_, fd, He5.fun_of F, g_law_take⟩
  have D_law_pick : DefAt K mg "_law_pick" "_law_pick" (top 36) := by
    obtain ⟨fd, F⟩ := c.def_ 20 (d := d_law_pick) rfl
    exact ⟨_, fd, He5.fun_of F, g_law_pick⟩
  have D_law_is_integer : DefAt K mg "_law_is_integer" "_law_is_integer" (top 37) := by
    obtain ⟨fd, F⟩ := c.def_ 21 (d := d_law_is_integer) rfl
    exact ⟨_, fd, He5.fun_of F, g_law_is_integer⟩
  have D_law_same : DefAt K mg "_law_same" "_law_same" (top 38) := by
    obtain ⟨fd, F⟩ := c.def_ 22 (d := d_law_same) rfl
    exact ⟨_, fd, He5.fun_of F, g_law_same⟩
  have D_law_below : DefAt K mg "_law_below" "_law_below" (top 39) := by
    obtain ⟨fd, F⟩ := c.def_ 23 (d := d_law_below) rfl
    exact ⟨_, fd, He5.fun_of F, g_law_below⟩
  have D_law_order : DefAt K mg "_law_order" "_law_order" (top 40) := by
    obtain ⟨fd, F⟩ := c.def_ 24 (d := d_law_order) rfl
    exact ⟨_, fd, He5.fun_of F, g_law_order⟩
  have D_law_power : DefAt K mg "_law_power" "_law_power" (top 41) := by
    obtain ⟨fd, F⟩ := c.def_ 25 (d := d_law_power) rfl
    exact ⟨_, fd, He5.fun_of F, g_law_power⟩
  have D_law_graph : DefAt K mg "_law_graph" "_law_graph" (top 42) := by
    obtain ⟨fd, F⟩ := c.def_ 26 (d := d_law_graph) rfl
    exact ⟨_, fd, He5.fun_of F, g_law_graph⟩
  have D_law_all_pairs : DefAt K mg "_law_all_pairs" "_law_all_pairs" (top 43) := by
    obtain ⟨fd, F⟩ := c.def_ 27 (d := d_law_all_pairs) rfl
    exact ⟨_, fd, He5.fun_of F, g_law_all_pairs⟩
  have D_law_table : DefAt K mg "_law_table" "_law_table" (top 44) := by
    obtain ⟨fd, F⟩ := c.def_ 28 (d := d_law_table) rfl
    exact ⟨_, fd, He5.fun_of F, g_law_table⟩
  have D_law_great_row : DefAt K mg "_law_great_row" "_law_great_row" (top 45) := by
    obtain ⟨fd, F⟩ := c.def_ 29 (d := d_law_great_row) rfl
    exact ⟨_, fd, He5.fun_of F, g_law_great_row⟩
  have D_law_pieces : DefAt K mg "_law_pieces" "_law_pieces" (top 46) := by
    obtain ⟨fd, F⟩ := c.def_ 30 (d := d_law_pieces) rfl
    exact ⟨_, fd, He5.fun_of F, g_law_pieces⟩
  have D_law_sheets : DefAt K mg "_law_sheets" "_law_sheets" (top 47) := by
    obtain ⟨fd, F⟩ := c.def_ 31 (d := d_law_sheets) rfl
    exact ⟨_, fd, He5.fun_of F, g_law_sheets⟩
  have D_law_map : DefAt K mg "_law_map" "_law_map" (top 48) := by
    obtain ⟨fd, F⟩ := c.def_ 32 (d := d_law_map) rfl
    exact ⟨_, fd, He5.fun_of F, g_law_map⟩
  have D_law_counts : DefAt K mg "_law_counts" "_law_counts" (top 49) := by
    obtain ⟨fd, F⟩ := c.def_ 33 (d := d_law_counts) rfl
    exact ⟨_, fd, He5.fun_of F, g_law_counts⟩
  have D_law_goal : DefAt K mg "_law_goal" "_law_goal" (top 50) := by
    obtain ⟨fd, F⟩ := c.def_ 34 (d := d_law_goal) rfl
    exact ⟨_, fd, He5.fun_of F, g_law_goal⟩
  have D_law_sheets_of : DefAt K mg "_law_sheets_of" "_law_sheets_of" (top 51) := by
    obtain ⟨fd, F⟩ := c.def_ 35 (d := d_law_sheets_of) rfl
    exact ⟨_, fd, He5.fun_of F, g_law_sheets_of⟩
  have D_law_fault : DefAt K mg "_law_fault" "_law_fault" (top 52) := by
    obtain ⟨fd, F⟩ := c.def_ 36 (d := d_law_fault) rfl
    exact ⟨_, fd, He5.fun_of F, g_law_fault⟩
  have D_law_is_branched : DefAt K mg "_law_is_branched" "_law_is_branched" (top 53) := by
    obtain ⟨fd, F⟩ := c.def_ 37 (d := d_law_is_branched) rfl
    exact ⟨_, fd, He5.fun_of F, g_law_is_branched⟩
  have D_law : DefAt K mg "law" "law" (top 54) := by
    obtain ⟨fd, F⟩ := c.def_ 38 (d := d_law) rfl
    exact ⟨_, fd, He5.fun_of F, g_law⟩
  have D_Graph___init__ : MkAt K mg "Graph" (He.ga K "Graph") "__init__" "Graph.__init__" (inClass (top 15) 0) := by
    obtain ⟨fd, F⟩ := c.def_ 39 (d := d_Graph___init__) rfl
    exact ⟨_, fd, He5.fun_of F, k_Graph, g_Graph⟩
  have D_GraphMap___init__ : MkAt K mg "GraphMap" (He.ga K "GraphMap") "__init__" "GraphMap.__init__" (inClass (top 26) 0) := by
    obtain ⟨fd, F⟩ := c.def_ 40 (d := d_GraphMap___init__) rfl
    exact ⟨_, fd, He5.fun_of F, k_GraphMap, g_GraphMap⟩
  have D_Graph___eq__ : EqAt K (He.ga K "Graph") "__eq__" "Graph.__eq__" (inClass (top 15) 1) := by
    obtain ⟨fd, F⟩ := c.def_ 41 (d := d_Graph___eq__) rfl
    exact ⟨_, fd, He5.fun_of F, e_Graph___eq__.1, e_Graph___eq__.2⟩
  unfold mine insB at hm
  simp only [Bool.and_eq_true] at hm
  obtain ⟨m1, m2, m3, m4, m5, m6, m7, m8, m9⟩ := hm
  have e0 : SupX.fnC K (He.ma K (He.ga K "BadGraphMap") "__init__") = some ((("__init__" : Str)), ("BadGraphMap.__init__" : Str), defArgs sB, FuncBody.stmts (defBody sB), defScope sB, mainGlobals, builtinsNs) := Option.some.inj (congrArg (fun l : List SupX.FnC => l[0]?) hsv)
  obtain ⟨p1, p2, p3, q1, q2, q3, q4, qa, q5, q6, q7, q8, q9, q10, qb, qc, qd, qe, a1, a2, a3, a4⟩ := formB
  rw [a1, a2, a3] at e0
  have TB : SupRN.SupTxt PP K mg "BadGraphMap" _ _ := SupRN.sup_ok g_BadGraphMap f_super noSuper e0 a4 m1
  have EC : ErrM K mg (He.ga K "ChipError") (He.ga K "BadGraphMap") := ⟨g_ChipError, x_BadGraphMap_BadGraphMap, of_decide_eq_true m2⟩
  have B : Bt mg := ⟨f_len, f_int, f_list, f_tuple, f_range, f_isinstance, f_bool, f_str, f_all, f_any, f_min, f_max, f_sum, f_enumerate, f_zip, f_sorted, f_repr⟩
  have GC : GraphC K (He.ga K "Graph") := ⟨c_Graph, n_Graph_n, n_Graph_edges, n_Graph_genus, n_Graph_kept⟩
  have GM : GMapC K (He.ga K "GraphMap") := ⟨c_GraphMap, n_GraphMap_graph, n_GraphMap_goal, n_GraphMap_places, n_GraphMap_edges, n_GraphMap_sheets, n_GraphMap_degree⟩
  have IC : C8.InsC K (He.ga K "Graph") := ⟨c_Graph, of_decide_eq_true m4, of_decide_eq_true m5, of_decide_eq_true m6, of_decide_eq_true m7, of_decide_eq_true m8⟩
  have h_take := ok_take (P := PP) (w := w) (base := base) D_law_take B
  have h_pick := ok_pick D_law_pick B h_take
  have h_isi := ok_is_integer (P := PP) (w := w) (base := base) D_law_is_integer B
  have h_same := ok_same D_law_same B h_isi 3
  have h_order := ok_order D_law_order B h_take
  have h_pairs := ok_all_pairs (P := PP) (w := w) (base := base) (K := K) D_law_all_pairs B
  have h_graph := ok_graph D_law_graph B h_take h_pick h_order h_pairs
  have h_wg := ok_is_whole (P := PP) (w := w) (base := base) D_is_whole_graphs B
  have h_ws := ok_is_whole_s (P := PP) (w := w) (base := base) D_is_whole_sums B
  have h_ef := ok_edge_fault D_edge_fault B h_wg
  have h_tg := ok_together (P := PP) (w := w) (base := base) D_together B
  have mk_G := ok_Graph D_Graph___init__ B GC h_wg h_ef h_tg i_MOST_PLACES i_MOST_EDGES
  have h_tp := ok_told_places D_told_places B GC TB h_wg
  have h_io := ok_is_over D_is_over B GC h_wg
  have h_te := ok_told_edges D_told_edges B GC TB h_io
  have h_cnt := ok_counted (P := PP) (w := w) (base := base) D_counted B GC
  have h_ts := ok_told_sheets D_told_sheets B GC TB h_cnt
  have mk_M := ok_GraphMap D_GraphMap___init__ B GC GM TB h_tp h_te h_ts
  have h_eq := ok_GEq (P := PP) (w := w) (base := base) D_Graph___eq__ B GC g_Graph IC
  have h_pool := ok_pool (P := PP) (w := w) (base := base) (K := K) D_law_pool B
  have h_pcs := ok_pieces (P := PP) (w := w) (base := base) (K := K) D_law_pieces B
  have h_shs := ok_sheets D_law_sheets B h_take
  have h_goal := ok_goal D_law_goal B h_take h_graph
  have h_map := ok_map D_law_map B h_take h_shs h_order h_pcs
  have h_cts := ok_counts (P := PP) (w := w) (base := base) D_law_counts B
  have h_below := ok_below D_law_below B h_take
  have h_power := ok_power (P := PP) (w := w) (base := base) (K := K) D_law_power B
  have h_table := ok_table (P := PP) (w := w) (base := base) (K := K) D_law_table B
  have h_grow := ok_great_row D_law_great_row B h_take h_pick h_below h_power
  have h_lap := ok_laplace (P := PP) (w := w) (base := base) D_laplace B GC
  have h_vals := ok_valences D_valences B h_lap
  have h_tsum := ok_told_sum D_told_sum B GC h_ws
  have h_gath := ok_gathered (P := PP) (w := w) (base := base) D_gathered B GC GM
  have h_spr := ok_spread (P := PP) (w := w) (base := base) D_spread B GM
  have h_push := ok_pushed D_pushed B GM h_tsum h_gath
  have h_pull := ok_pulled D_pulled B GM h_tsum h_spr
  have h_brow := ok_branch_row D_branch_row B GM h_lap h_vals h_spr
  have h_ma := ok_map_after D_map_after B GM TB h_eq (of_decide_eq_true m9) (of_decide_eq_true m7) mk_M
  have h_so := ok_sheets_of D_law_sheets_of B h_cts
  have h_lf := ok_law_fault D_law_fault B TB EC h_ma
  have h_br := ok_branched D_law_is_branched B GM h_table h_so h_brow h_same
  exact ok_law D_law B GM h_pool h_take h_goal h_map mk_G h_br h_same h_eq h_ma.quiet h_grow h_push h_pull h_lf mk_M.quiet
end G3
open PySem PySem.W PySem.Calls PyProof.Rows
theorem PySem.Challenge.cw_chipsproved_k73_whole_branch_rows_holds : PySem.Challenge.rw_chipsproved_k73_whole_branch_rows.Holds := by
  w_on; o_law
  refine HandSHeadRun.head_any (r := OpenLaw.row PySem.Challenge.rw_chipsproved_k73_whole_branch_rows) (q := view (OpenLaw.row PySem.Challenge.rw_chipsproved_k73_whole_branch_rows).prog [54]) (H := G3.hk) (ob := G3.ob) (M := 20000) (loose := G3.loose) (d := HandSHeadRun.topDef (OpenLaw.row PySem.Challenge.rw_chipsproved_k73_whole_branch_rows).prog 54) (kwd := []) G3.ob_eq
    (by kernel_rfl) (fun s => by kernel_rfl) G3.run (by kernel_rfl) (by kernel_rfl) (by kernel_rfl) (by rfl) (by first | assumption | decide +kernel) (by decide +kernel) ⟨rfl, rfl, rfl, rfl, rfl, by decide +kernel⟩ ?hw ?hc
  case hw => w_witness2
  case hc =>
    refine L2.walk_ofG (l := PySem.Challenge.rw_chipsproved_k73_whole_branch_rows) (n := 63) (k := 8) (x := "script") (CX := L2.CX0) rfl (by decide) (by kernel_rfl) ⟨rfl, by decide, by decide⟩ ?F (fun _ _ _ _ z => z)
    intro w mg fa h Y G hmg0
    obtain ⟨K, KX, c⟩ := Y
    have hmg : mg ("law" : PySem.Str) = some (.ref fa) := by
      have e : (HandSHeadRun.topDef (OpenLaw.row PySem.Challenge.rw_chipsproved_k73_whole_branch_rows).prog 54).name = ("law" : PySem.Str) := by kernel_rfl
      rw [← e]
      exact hmg0
    refine ⟨K, G3.spLaw K, KX, fun H a ns hl _ hS => ⟨a, ns, rfl, hS, Nat.le_trans hl (by decide), fun _ => rfl⟩, fun base _ _ => ?_⟩
    obtain ⟨f, fd, F, hm, _, hb⟩ := G3.facts (w := w) KX G c base
    rw [hmg] at hm
    cases hm
    exact ⟨fd, F, hb⟩

