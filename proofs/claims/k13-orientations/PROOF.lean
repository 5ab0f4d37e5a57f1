import PyProof.Rows.All
import Wide.All
import OpenK.AllK
import Wide.FinOn
import KE.KStateDown
import HandS.ForMost
import HandS.More
import HandS.WordsExc
import HandS.Defaults
import HandS.Conv
import HandS.TupAny
import HandS.Wide
import HandS.IsInst
import HandS.Zip
import HandS.Evl
import HandS.Steps
import PySem.Challenge.RW_chipsproved_k13_orientations
import KE.KExcSuper
import HandS.Exc
import HandS.TryMany
import HandS.ExcField
import HandS.ExcIs
import HandS.CallSlots
import HandS.HeadWalk
import KE.GoesMore
import KE.GoesEnum
import HandS.Walk
import HandS.DictTup
import HandS.SortRule
import KE.KIsAll
import HandS.Ends
import HandS.HeadEnd
import HandS.FStrTup
import HandS.Head0
import HandS.Head1
import HandS.Head2
import HandS.HeadHook1
import HandS.HeadHook2
import HandS.HeadNt
import HandS.SetFor
import HandS.Strs
import KE.DataMinMax
import PyProof.StrOps2
set_option Elab.async false
set_option linter.all false
set_option maxRecDepth 100000
set_option maxHeartbeats 1000000
namespace G3
open PySem PySem.Spec PyProof.Rows L2

/-! ## a def where it stands, and what it promises -/
def DefAt (K : PySem.W.Frag) (mg : Str → Option Value) (x nm : Str) (st : Stmt) : Prop := ∃ f fd, Fun K nm nm st f fd ∧ mg x = some (.ref f)
def Has (P : Program) (w : World) (K : PySem.W.Frag) (mg : Str → Option Value) (base : Heap) (CX : CXT) (k : Nat) (x : Str) (ps : List Str) (sp : Sp) : Prop :=
  ∃ f fd, FnOk P w K mg base CX k f fd ps sp ∧ mg x = some (.ref f) ∧ PySem.W.keepIn K (.ref f) = true ∧ Binds K fd ps []
section
variable {P : Program} {w : World} {K : PySem.W.Frag} {mg : Str → Option Value} {base : Heap} {CX : CXT} {k : Nat} {x : Str} {ps : List Str} {sp : Sp}
theorem Has.imp {sp' : Sp} (h : Has P w K mg base CX k x ps sp) (hs : ∀ vs H Q E, sp' vs H Q E → sp vs H Q E) : Has P w K mg base CX k x ps sp' := by
  obtain ⟨f, fd, F, r⟩ := h
  exact ⟨f, fd, F.imp hs, r⟩
theorem Has.mono {j : Nat} (h : Has P w K mg base CX j x ps sp) (hj : j ≤ k) : Has P w K mg base CX k x ps sp := by
  obtain ⟨f, fd, F, r⟩ := h
  exact ⟨f, fd, F.mono hj, r⟩
theorem has_of {nm : Str} {st : Stmt} {N : List Str} (D : DefAt K mg x nm st) (S : FnScope N ps (defScope st)) 
    (hb : ∀ (kV doc pm : Value) (an : Option Addr) (cdv ct : Value) (us : List Value), us.length = ps.length → bindArgs (PySem.W.fnOf nm nm (defArgs st) (defBody st) (defScope st) .none kV doc pm an cdv ct) ⟨us, []⟩ = pure (ps.zip us))
    (len : ∀ vs H Q E, sp vs H Q E → vs.length = ps.length)
    (hbody : ∀ (f : Addr) (cdv : Value) (A : Around) (outer : List Env) (s : Shared) (H : Hp) (vs : List V) (Q : VK) (E : XK), Room k (A.deeper (envOfC nm (defScope st) s.heap.objs.size f cdv)) → sp vs H Q E →
      ∃ t, PSs (cxOf CX0 P w K mg base N nm (defScope st) f cdv A outer s H E).nox (defBody st) t ∧ t { nx := fun _ H' => Q .non H', rt := Q } (start N vs) H) : Has P w K mg base CX0 (k + 1) x ps sp := by
  obtain ⟨f, fd, F, m⟩ := D
  exact ⟨f, fd, F.ok S len (fun cdv A outer s H vs Q E hr hs => hbody f cdv A outer s H vs Q E hr hs), m, F.kp, F.binds hb⟩
end
theorem pe_h {X : Cx} {CX : CXT} {k j : Nat} {x : Str} {ps : List Str} {sp : Sp} {E : XK} {p pos : Pos} {e : Expr} {es : List Expr} {t : TA} (h : Has X.prog X.w X.K X.mg X.base CX k x ps sp) (hr : Room j X.A) (hx : Passes CX X E)
    (ha : PA X (e :: es) t) (hk : k ≤ j := by first | decide | omega) (hg : Gl X x := by rfl) (hdb : (x == ("__debug__" : Str)) = false := by decide) (he : starEach (e :: es) X.env = (false, eval e X.env) :: starEach es X.env := by rfl) (hpl : (backTo pos (starEach es X.env)).any (·.1) = false := by rfl) :
    PE X (.Call (.Name x p) (e :: es) [] pos) (tCall sp [] E t) := by
  obtain ⟨f, fd, F, m, kp, b⟩ := h
  exact pe_call F (hr.mono hk) hg m kp b .nil hx ha hdb he hpl
/-- a written global number -/
theorem pe_gint {X : Cx} {x : Str} {i : Int} {pos : Pos} (h : ∃ t, X.mg x = some (.int i t)) (hg : Gl X x := by rfl) (hd : (x == ("__debug__" : Str)) = false := by decide) : PE X (.Name x pos) (tC (.int i)) := by
  obtain ⟨t, h⟩ := h
  exact pe_glob hg h ⟨t, rfl⟩ hd

/-! ## tests -/
theorem ifD {p A B : Prop} [Decidable p] (h1 : p → A) (h2 : ¬ p → B) : if decide p = true then A else B := by
  by_cases h : p
  · rw [if_pos (decide_eq_true h)]; exact h1 h
  · rw [if_neg (by simp [h])]; exact h2 h
theorem ifN {p A B : Prop} [Decidable p] (h1 : ¬ p → A) (h2 : p → B) : if (!decide p) = true then A else B := by
  by_cases h : p
  · rw [if_neg (by simp [h])]; exact h2 h
  · rw [if_pos (by simp [h])]; exact h1 h
theorem ifB {b : Bool} {A B : Prop} (h1 : b = true → A) (h2 : b = false → B) : if b = true then A else B := by
  cases b
  · rw [if_neg (by decide)]; exact h2 rfl
  · rw [if_pos rfl]; exact h1 rfl
theorem bl_t {p : Prop} [Decidable p] {Q : VK} {H : Hp} (h : p) (q : Q (.bl true) H) : Q (.bl (decide p)) H := by rw [decide_eq_true h]; exact q

theorem atI_int {α : Type} {xs : List α} {i : Int} {v : α} (h0 : 0 ≤ i) (h : xs[i.toNat]? = some v) : atI xs i = some v := by
  obtain ⟨n, rfl⟩ : ∃ n : Nat, i = n := ⟨i.toNat, by omega⟩
  exact atI_nat (by simpa using h)
theorem getMap {α : Type} {xs : List α} {f : α → V} {i : Nat} (h : i < xs.length) : (xs.map f)[i]? = some (f xs[i]) := by
  rw [List.getElem?_map, List.getElem?_eq_getElem h]; rfl

theorem st_ite {c : TT} {t1 t2 : TS} {D : Ends} {σ : L2.St} {H : Hp} {b : Bool} (h : Ans c σ H b) (h1 : b = true → t1 D σ H) (h2 : b = false → t2 D σ H) : tIfS c t1 t2 D σ H := by
  cases b
  · exact st_no h (h2 rfl)
  · exact st_yes h (h1 rfl)
theorem yes_ {σ : L2.St} {H : Hp} {A B : Hp → Prop} (h : A H) : tYes σ H (fun b H3 => if b = true then A H3 else B H3) := iteT (A := A H) (B := B H) h

/-! ## heaps -/
theorem same_upd {H : Hp} {p : Addr} {o : HO} (h : H p = none) : Same H (upd H p o) := fun b x e => by
  rw [upd_ne (ne_of_none e h)]; exact e
theorem Same.seqT {K : PySem.W.Frag} {H H' : Hp} {a : Addr} {xs : List V} (e : Same H H') (h : SqT K H a xs) : SqT K H' a xs := by
  rcases h with (h | ⟨o, h⟩) | h
  · exact .inl (.inl (e _ _ h))
  · exact .inl (.inr ⟨o, e _ _ h⟩)
  · exact .inr h

/-! ## the pool of a law: a list that only _law_take reads and writes -/
def PoolO (a c : Addr) : HO := .ext fun h => ∃ (i d s : Int) (t1 t2 t3 : Tok) (n : Nat), 0 ≤ i ∧ 0 ≤ d ∧ 0 ≤ s ∧ s < 2147483647 ∧
  h.get? a = some ({ cls := .type "list", data := .seq #[.ref c, .int i t1, .int d t2, .int s t3] n } : Obj)
def poolL (c : Addr) (i d s : Int) : List V := [.ref c, .int i, .int d, .int s]
def PoolAt (H : Hp) (a : Addr) : Prop := ∃ (c : Addr) (ns : List Int), H a = some (PoolO a c) ∧ H c = some (.lst (ns.map V.int)) ∧ ∀ n ∈ ns, (0 : Int) ≤ n
theorem PoolAt.same {H H' : Hp} {a : Addr} (h : PoolAt H a) (e : Same H H') : PoolAt H' a := by
  obtain ⟨c, ns, h1, h2, h3⟩ := h
  exact ⟨c, ns, e _ _ h1, e _ _ h2, h3⟩
theorem ext_own {φ : Heap → Prop} {x : Addr} : HO.ext φ ≠ .own x := fun z => by cases z
theorem ext_tup {φ : Heap → Prop} {xs : List V} : HO.ext φ ≠ .tup xs := fun z => by cases z
theorem lst_own {ys : List V} {x : Addr} : HO.lst ys ≠ .own x := fun z => by cases z
theorem lst_tup {ys xs : List V} : HO.lst ys ≠ .tup xs := fun z => by cases z
/-- what is tracked at a is told otherwise: a list by its ext, or back -/
theorem hok_ghost {P : Program} {w : World} {H : Hp} {h : Heap} {a : Addr} {o o' : HO} (ok : HOk P w H h) (e : H a = some o) (n1 : ∀ x, o ≠ .own x) (n2 : ∀ xs, o ≠ .tup xs) (new : ObjOk P w (upd H a o') h a o') : HOk P w (upd H a o') h := fun b u q => by
  by_cases hb : b = a
  · subst hb; rw [upd_same] at q; cases q; exact new
  · rw [upd_ne hb] at q
    refine (ok b u q).stay (fun _ _ _ z => z) (fun c z => ?_) (fun c xs z => ?_)
    · rw [upd_ne]; exact z
      intro y; subst y; rw [e] at z; exact n1 _ (Option.some.inj z)
    · rw [upd_ne]; exact z
      intro y; subst y; rw [e] at z; exact n2 _ (Option.some.inj z)
theorem pool_open {P : Program} {w : World} {H : Hp} {h : Heap} {a c : Addr} (ok : HOk P w H h) (e : H a = some (PoolO a c)) :
    ∃ i d s : Int, 0 ≤ i ∧ 0 ≤ d ∧ 0 ≤ s ∧ s < 2147483647 ∧ HOk P w (upd H a (.lst (poolL c i d s))) h := by
  obtain ⟨⟨i, d, s, t1, t2, t3, n, h1, h2, h3, h4, ho⟩, _, _⟩ := ok a _ e
  refine ⟨i, d, s, h1, h2, h3, h4, hok_ghost ok e (fun x => ext_own) (fun xs => ext_tup) ⟨by show 4 ≤ sizeLine; decide, [.ref c, .int i t1, .int d t2, .int s t3], n, ?_, ho⟩⟩
  exact .cons rfl (.cons ⟨_, rfl⟩ (.cons ⟨_, rfl⟩ (.cons ⟨_, rfl⟩ .nil)))
theorem pool_close {P : Program} {w : World} {H : Hp} {h : Heap} {a c : Addr} {i d s : Int} (ok : HOk P w H h) (e : H a = some (.lst (poolL c i d s))) (h1 : 0 ≤ i) (h2 : 0 ≤ d) (h3 : 0 ≤ s) (h4 : s < 2147483647) :
    HOk P w (upd H a (PoolO a c)) h := by
  obtain ⟨_, its, n, r, ho⟩ := ok a _ e
  refine hok_ghost ok e (fun x => lst_own) (fun xs => lst_tup) ?_
  cases r with
  | cons r0 r => cases r with
    | cons r1 r => cases r with
      | cons r2 r => cases r with
        | cons r3 r => cases r with
          | nil =>
            obtain rfl := r0
            obtain ⟨t1, rfl⟩ := r1
            obtain ⟨t2, rfl⟩ := r2
            obtain ⟨t3, rfl⟩ := r3
            have ho' : h.get? a = some ({ cls := .type "list", data := .seq #[.ref c, .int i t1, .int d t2, .int s t3] n } : Obj) := ho
            exact ⟨⟨i, d, s, t1, t2, t3, n, h1, h2, h3, h4, ho'⟩, ⟨_, ho'⟩, fun g1 g2 ⟨i', d', s', t1', t2', t3', n', a1, a2, a3, a4, q⟩ k => ⟨i', d', s', t1', t2', t3', n', a1, a2, a3, a4, k _ q⟩⟩
/-- another word for the heap ahead of a call and behind it -/
def Gst (H H1 : Hp) : Prop := (∀ b, H b = none → H1 b = none) ∧ (∀ b xs, H b = some (.tup xs) → H1 b = some (.tup xs)) ∧ (∀ b o u, H b = some (.frz o u) → H1 b = some (.frz o u)) ∧ (∀ b ps, H b = some (.tbl ps) → H1 b = some (.tbl ps))
theorem Gst.upd {H : Hp} {a : Addr} {o o' : HO} (e : H a = some o) (n1 : ∀ xs, o ≠ .tup xs) (n2 : ∀ ob u, o ≠ .frz ob u) (n3 : ∀ ps, o ≠ .tbl ps) : Gst H (L2.upd H a o') := by
  refine ⟨fun b n => ?_, fun b xs q => ?_, fun b ob u q => ?_, fun b ps q => ?_⟩
  · rw [upd_ne]; exact n
    intro z; subst z; rw [e] at n; cases n
  · rw [upd_ne]; exact q
    intro z; subst z; rw [e] at q; exact n1 _ (Option.some.inj q)
  · rw [upd_ne]; exact q
    intro z; subst z; rw [e] at q; exact n2 _ _ (Option.some.inj q)
  · rw [upd_ne]; exact q
    intro z; subst z; rw [e] at q; exact n3 _ (Option.some.inj q)
theorem ghost_call {P : Program} {w : World} {K : PySem.W.Frag} {mg : Str → Option Value} {base : Heap} {k : Nat} {f : Addr} {fd : FuncData} {ps : List Str} {sp sp' : Sp} (F : FnOk P w K mg base CX0 k f fd ps sp) (hlen : ∀ vs H Q E, sp' vs H Q E → vs.length = ps.length)
    (h : ∀ vs H Q E hp, HOk P w H hp → sp' vs H Q E → ∃ H1 Q1 E1, Gst H H1 ∧ HOk P w H1 hp ∧ sp vs H1 Q1 E1 ∧ ∀ v H2 hp2, HOk P w H2 hp2 → Q1 v H2 → ∃ H3, Gst H2 H3 ∧ HOk P w H3 hp2 ∧ Q v H3) : FnOk P w K mg base CX0 k f fd ps sp' := by
  refine ⟨hlen, fun A outer s H args us vs Q E hr e0 hb hv hs => ?_⟩
  obtain ⟨H1, Q1, E1, g, ok1, hs1, back⟩ := h vs H Q E s.heap e0.hok hs
  have e1 : Env0 P w K mg base A outer s H1 := ⟨e0.frames, e0.mod, fun b o q => ⟨(e0.bs b o q).1, g.1 b (e0.bs b o q).2⟩, e0.bsz, e0.funs, fun b hb => g.1 b (e0.frf b hb), ok1, e0.bare⟩
  refine codeAny_mono (F.run A outer s H1 args us vs Q1 E1 hr e1 hb hv hs1) fun r s' hq => ?_
  cases r with
  | error e => exact hq
  | ok fl =>
    cases fl with
    | ret u =>
      obtain ⟨v, H2, os, bare, un, ok2, rv, q1⟩ := hq
      obtain ⟨H3, g3, ok3, q⟩ := back v H2 _ ok2 q1
      refine ⟨v, H3, os, bare, ?_, ok3, rv, q⟩
      exact ⟨fun b o z n => un.keep b o z (g.1 b n), fun b o z n => un.slot b o z (g.1 b n), fun b o z n hx => g3.1 b (un.free b o z (g.1 b n) hx), un.there, fun b xs z => g3.2.1 b xs (un.tups b xs (g.2.1 b xs z)), fun b o u z => g3.2.2.1 b o u (un.frzs b o u (g.2.2.1 b o u z)),
        fun b ps z => by
          obtain ⟨m, z2⟩ := un.tbls b ps (g.2.2.2 b ps z)
          exact ⟨m, g3.2.2.2 b _ z2⟩⟩
    | next => exact hq
    | brk => exact hq
    | cont => exact hq

/-! ## a def that is never called so -/
theorem has_false {P : Program} {w : World} {K : PySem.W.Frag} {mg : Str → Option Value} {base : Heap} {k : Nat} {x nm : Str} {st : Stmt} {ps : List Str} {sp : Sp} (D : DefAt K mg x nm st)
    (hb : ∀ (kV doc pm : Value) (an : Option Addr) (cdv ct : Value) (us : List Value), us.length = ps.length → bindArgs (PySem.W.fnOf nm nm (defArgs st) (defBody st) (defScope st) .none kV doc pm an cdv ct) ⟨us, []⟩ = pure (ps.zip us))
    (h : ∀ vs H Q E, ¬ sp vs H Q E) : Has P w K mg base CX0 k x ps sp := by
  obtain ⟨f, fd, F, m⟩ := D
  exact ⟨f, fd, ⟨fun vs H Q E q => (h _ _ _ _ q).elim, fun _ _ _ H _ _ vs Q E _ _ _ _ q => (h _ _ _ _ q).elim⟩, m, F.kp, F.binds hb⟩

/-! ## data: rows of numbers, and anything at any depth -/
def Row (K : PySem.W.Frag) (H : Hp) (v : V) (xs : List V) : Prop := ∃ a, v = .ref a ∧ (SqL K H a xs ∨ SqT K H a xs)
theorem Row.same {K : PySem.W.Frag} {H H' : Hp} {v : V} {xs : List V} (h : Row K H v xs) (e : Same H H') : Row K H' v xs := by
  obtain ⟨a, rfl, h⟩ := h
  exact ⟨a, rfl, h.elim (fun h => .inl (e.seq h)) (fun h => .inr (Same.seqT e h))⟩
def tyN : PyData → String
  | .none => "NoneType"
  | .bool _ => "bool"
  | .int _ => "int"
  | .str _ => "str"
  | .list _ => "list"
  | .tuple _ => "tuple"
  | .dict _ => "dict"
theorem ty_l {K : PySem.W.Frag} {H : Hp} {a : Addr} {xs : List V} (h : SqL K H a xs) : TyX K H (.ref a) (.type "list") := by
  rcases h with (h | ⟨o, h⟩) | ⟨o, its, n, hk, hc, _⟩
  · exact .base (.lst h)
  · exact .base (.frz h)
  · exact .kList hk hc
theorem ty_t {K : PySem.W.Frag} {H : Hp} {a : Addr} {xs : List V} (h : SqT K H a xs) : TyX K H (.ref a) (.type "tuple") := by
  rcases h with (h | ⟨o, h⟩) | ⟨o, its, n, hk, hc, _⟩
  · exact .base (.tup h)
  · exact .fTuple h
  · exact .kTuple hk hc
theorem Dp.ty {K : PySem.W.Frag} {H : Hp} {v : V} {d : PyData} (h : Dp K H v d) : TyX K H v (.type (tyN d)) := by
  cases h with
  | non => exact .base .non
  | bl b => exact .base (.bl b)
  | int i => exact .base (.int i)
  | str x => exact .base (.str x)
  | lst h _ => exact ty_l h
  | tup h _ => exact ty_t h
mutual
theorem Dp.same {K : PySem.W.Frag} {H H' : Hp} (e : Same H H') : ∀ {v : V} {d : PyData}, Dp K H v d → Dp K H' v d
  | _, _, .non => .non
  | _, _, .bl b => .bl b
  | _, _, .int i => .int i
  | _, _, .str x => .str x
  | _, _, .lst h t => .lst (e.seq h) (DpAll.same e t)
  | _, _, .tup h t => .tup (Same.seqT e h) (DpAll.same e t)
theorem DpAll.same {K : PySem.W.Frag} {H H' : Hp} (e : Same H H') : ∀ {vs : List V} {ds : List PyData}, DpAll K H vs ds → DpAll K H' vs ds
  | _, _, .nil => .nil
  | _, _, .cons h t => .cons (Dp.same e h) (DpAll.same e t)
end
theorem DpAll.len {K : PySem.W.Frag} {H : Hp} : ∀ {vs : List V} {ds : List PyData}, DpAll K H vs ds → vs.length = ds.length
  | _, _, .nil => rfl
  | _, _, .cons _ t => by rw [List.length_cons, List.length_cons, DpAll.len t]
theorem DpAll.get {K : PySem.W.Frag} {H : Hp} : ∀ {vs : List V} {ds : List PyData} {i : Nat}, DpAll K H vs ds → (h : i < ds.length) → ∃ v, vs[i]? = some v ∧ Dp K H v ds[i]
  | _, _, i, .nil, h => absurd h (by simp)
  | _, _, 0, .cons d _, _ => ⟨_, rfl, d⟩
  | _, _, i + 1, .cons _ t, h => by
    obtain ⟨v, e, d⟩ := DpAll.get (i := i) t (by simpa using h)
    exact ⟨v, by simpa using e, d⟩
theorem dpAll_ints {K : PySem.W.Frag} {H : Hp} : ∀ ns : List Int, DpAll K H (ns.map V.int) (ns.map PyData.int)
  | [] => .nil
  | n :: r => .cons (.int n) (dpAll_ints r)
theorem DpAll.app {K : PySem.W.Frag} {H : Hp} : ∀ {vs ws : List V} {ds es : List PyData}, DpAll K H vs ds → DpAll K H ws es → DpAll K H (vs ++ ws) (ds ++ es)
  | _, _, _, _, .nil, t => t
  | _, _, _, _, .cons h r, t => .cons h (DpAll.app r t)
theorem kt_int {K : PySem.W.Frag} (d : PyData) : PySem.W.kitOne K (.type (tyN d)) (.type "int") = some (match d with | .int _ => true | .bool _ => true | _ => false) := by
  cases d with
  | none => exact kit_ty (a := "NoneType") (b := "int") (r := false) (by decide +kernel)
  | bool => exact kit_ty (a := "bool") (b := "int") (r := true) (by decide +kernel)
  | int => exact kit_ty (a := "int") (b := "int") (r := true) (by decide +kernel)
  | str => exact kit_ty (a := "str") (b := "int") (r := false) (by decide +kernel)
  | list => exact kit_ty (a := "list") (b := "int") (r := false) (by decide +kernel)
  | tuple => exact kit_ty (a := "tuple") (b := "int") (r := false) (by decide +kernel)
  | dict => exact kit_ty (a := "dict") (b := "int") (r := false) (by decide +kernel)
theorem kt_bool {K : PySem.W.Frag} (d : PyData) : PySem.W.kitOne K (.type (tyN d)) (.type "bool") = some (match d with | .bool _ => true | _ => false) := by
  cases d with
  | none => exact kit_ty (a := "NoneType") (b := "bool") (r := false) (by decide +kernel)
  | bool => exact kit_ty (a := "bool") (b := "bool") (r := true) (by decide +kernel)
  | int => exact kit_ty (a := "int") (b := "bool") (r := false) (by decide +kernel)
  | str => exact kit_ty (a := "str") (b := "bool") (r := false) (by decide +kernel)
  | list => exact kit_ty (a := "list") (b := "bool") (r := false) (by decide +kernel)
  | tuple => exact kit_ty (a := "tuple") (b := "bool") (r := false) (by decide +kernel)
  | dict => exact kit_ty (a := "dict") (b := "bool") (r := false) (by decide +kernel)
theorem kt_str {K : PySem.W.Frag} (d : PyData) : PySem.W.kitOne K (.type (tyN d)) (.type "str") = some (match d with | .str _ => true | _ => false) := by
  cases d with
  | none => exact kit_ty (a := "NoneType") (b := "str") (r := false) (by decide +kernel)
  | bool => exact kit_ty (a := "bool") (b := "str") (r := false) (by decide +kernel)
  | int => exact kit_ty (a := "int") (b := "str") (r := false) (by decide +kernel)
  | str => exact kit_ty (a := "str") (b := "str") (r := true) (by decide +kernel)
  | list => exact kit_ty (a := "list") (b := "str") (r := false) (by decide +kernel)
  | tuple => exact kit_ty (a := "tuple") (b := "str") (r := false) (by decide +kernel)
  | dict => exact kit_ty (a := "dict") (b := "str") (r := false) (by decide +kernel)
theorem kt_tuple {K : PySem.W.Frag} (d : PyData) : PySem.W.kitOne K (.type (tyN d)) (.type "tuple") = some (match d with | .tuple _ => true | _ => false) := by
  cases d with
  | none => exact kit_ty (a := "NoneType") (b := "tuple") (r := false) (by decide +kernel)
  | bool => exact kit_ty (a := "bool") (b := "tuple") (r := false) (by decide +kernel)
  | int => exact kit_ty (a := "int") (b := "tuple") (r := false) (by decide +kernel)
  | str => exact kit_ty (a := "str") (b := "tuple") (r := false) (by decide +kernel)
  | list => exact kit_ty (a := "list") (b := "tuple") (r := false) (by decide +kernel)
  | tuple => exact kit_ty (a := "tuple") (b := "tuple") (r := true) (by decide +kernel)
  | dict => exact kit_ty (a := "dict") (b := "tuple") (r := false) (by decide +kernel)
theorem kt_list {K : PySem.W.Frag} (d : PyData) : PySem.W.kitOne K (.type (tyN d)) (.type "list") = some (match d with | .list _ => true | _ => false) := by
  cases d with
  | none => exact kit_ty (a := "NoneType") (b := "list") (r := false) (by decide +kernel)
  | bool => exact kit_ty (a := "bool") (b := "list") (r := false) (by decide +kernel)
  | int => exact kit_ty (a := "int") (b := "list") (r := false) (by decide +kernel)
  | str => exact kit_ty (a := "str") (b := "list") (r := false) (by decide +kernel)
  | list => exact kit_ty (a := "list") (b := "list") (r := true) (by decide +kernel)
  | tuple => exact kit_ty (a := "tuple") (b := "list") (r := false) (by decide +kernel)
  | dict => exact kit_ty (a := "dict") (b := "list") (r := false) (by decide +kernel)
theorem tyx_same {K : PySem.W.Frag} {H H' : Hp} {x : V} {t : String} (e : Same H H') (ty : TyX K H x (.type t)) : TyX K H' x (.type t) := by
  cases ty with
  | base h => cases h with
    | non => exact .base .non
    | bl b => exact .base (.bl b)
    | int b => exact .base (.int b)
    | str b => exact .base (.str b)
    | flt b => exact .base (.flt b)
    | lst h => exact .base (.lst (e _ _ h))
    | frz h => exact .base (.frz (e _ _ h))
    | tup h => exact .base (.tup (e _ _ h))
    | dK h => exact .base (.dK (e _ _ h))
    | dT h => exact .base (.dT (e _ _ h))
  | byt b => exact .byt b
  | set h => exact .set (e _ _ h)
  | kList h c => exact .kList h c
  | kTuple h c => exact .kTuple h c
  | kDict h c => exact .kDict h c
  | fTuple h => exact .fTuple (e _ _ h)
  | fDict h => exact .fDict (e _ _ h)
def isSeqD : PyData → Bool
  | .list _ => true
  | .tuple _ => true
  | _ => false
theorem kt_tl {K : PySem.W.Frag} (d : PyData) : PySem.W.kitAny K (.type (tyN d)) [.type "tuple", .type "list"] = some (isSeqD d) := by
  refine kitAny_cons (kt_tuple d) (fun h1 => kitAny_cons (kt_list d) (fun h2 => ?_) (fun h2 => ?_)) (fun h1 => ?_)
  · cases d <;> first | rfl | exact absurd (show true = false from h2) (by decide) | exact absurd (show false = true from h2) (by decide) | exact absurd (show true = false from h1) (by decide) | exact absurd (show false = true from h1) (by decide)
  · cases d <;> first | rfl | exact absurd (show true = false from h2) (by decide) | exact absurd (show false = true from h2) (by decide) | exact absurd (show true = false from h1) (by decide) | exact absurd (show false = true from h1) (by decide)
  · cases d <;> first | rfl | exact absurd (show false = true from h1) (by decide)
def isI : V → Bool
  | .int _ => true
  | _ => false

/-- data that nests fewer than n deep, in rows of no great length -/
def Fit : Nat → PyData → Prop
  | 0, _ => False
  | n + 1, .list ds => ds.length ≤ 100000 ∧ ∀ d ∈ ds, Fit n d
  | n + 1, .tuple ds => ds.length ≤ 100000 ∧ ∀ d ∈ ds, Fit n d
  | _ + 1, .dict _ => False
  | _ + 1, _ => True
theorem fit_ints {n : Nat} {ns : List Int} : ∀ d ∈ ns.map PyData.int, Fit (n + 1) d := fun d h => by
  obtain ⟨z, _, rfl⟩ := List.mem_map.mp h
  exact True.intro
theorem size_le {n : Nat} (h : n ≤ 100000) : n ≤ sizeLine := Nat.le_trans h (by decide)
theorem size_lt {n : Nat} (h : n < 100000) : n < sizeLine := Nat.lt_of_lt_of_le h (by decide)
theorem len_rep {n : Nat} {b : Bool} : ((List.replicate n b).map V.bl).length = n := by rw [List.length_map, List.length_replicate]
theorem all_rep {n : Nat} : (List.replicate n true).all id = true := by
  rw [List.all_eq_true]
  intro x hx
  rw [List.eq_of_mem_replicate hx]; rfl
theorem same_mut {H H' : Hp} {p : Addr} {o : HO} (e : Same H H') (h : H p = none) : Same H (upd H' p o) := fun b x z => by
  rw [upd_ne (ne_of_none z h)]; exact e _ _ z

/-! ## rules with the written part named (for use within a block) -/
section
variable {X : Cx} {K : PySem.W.Frag}
theorem ixL (h : X.K = K) : IxR X (rIxL K) := h ▸ ix_list
theorem ixT (h : X.K = K) : IxR X (rIxT K) := h ▸ ix_tup
theorem ixQ (h : X.K = K) : IxR X (rIx K) := h ▸ ix_seq
def rLenK (K : PySem.W.Frag) : List V → Hp → VK → Prop := fun xs H Q => ∃ x n, xs = [x] ∧ LenV K x H n ∧ Q (.int n) H
theorem lenK (h : X.K = K) : CallR X (.builtin "len") (rLenK K) := by subst h; exact call_len
theorem isiK (h : X.K = K) : CallR X (.builtin "isinstance") (rIsi K) := h ▸ call_isi
theorem isiTK (h : X.K = K) : CallR X (.builtin "isinstance") (rIsiT K) := h ▸ call_isiT
def rListK (K : PySem.W.Frag) : List V → Hp → VK → Prop := fun xs H Q => ∃ p ys, xs = [.ref p] ∧ (SqL K H p ys ∨ SqT K H p ys) ∧ ∀ l, H l = none → Q (.ref l) (upd H l (.lst ys))
theorem listK (h : X.K = K) : CallR X (.type "list") (rListK K) := by subst h; exact call_list_of
def rTupK (K : PySem.W.Frag) : List V → Hp → VK → Prop := fun xs H Q => ∃ p ys, xs = [.ref p] ∧ ((SqL K H p ys ∧ ∀ l, H l = none → Q (.ref l) (upd H l (.tup ys))) ∨ (SqT K H p ys ∧ Q (.ref p) H))
theorem tupK (h : X.K = K) : CallR X (.type "tuple") (rTupK K) := by subst h; exact call_tuple_of
theorem sumK (hc : X.calm = true) (h : X.K = K) : CallR X (.builtin "sum") (rSum K) := h ▸ cr_sum hc
theorem allK (hc : X.calm = true) (h : X.K = K) : CallR X (.builtin "all") (rAll K) := h ▸ cr_all hc
theorem anyK (hc : X.calm = true) (h : X.K = K) : CallR X (.builtin "any") (rAny K) := h ▸ cr_any hc
theorem slL (h : X.K = K) : SlR X (rSlL K) := h ▸ sl_list
theorem slT (h : X.K = K) : SlR X (rSlA K) := h ▸ sl_tupA
theorem inK (h : X.K = K) : OpR X (compareOp .In) (rIn K false) := h ▸ op_in_seq
theorem ninK (h : X.K = K) : OpR X (compareOp .NotIn) (rIn K true) := h ▸ op_notIn_seq
theorem catK (h : X.K = K) : OpR X (binaryOp .Add) (rCatA K) := h ▸ op_catA
theorem piL (h : X.K = K) {tg l : Expr} {tl : TE} (hl : PE X l tl) : PI X tg l (iList K tl) := by subst h; exact pi_list hl
theorem piT (h : X.K = K) {tg l : Expr} {tl : TE} (hl : PE X l tl) : PI X tg l (iTup K tl) := by subst h; exact pi_tup hl
theorem pgT (h : X.K = K) {es : List Expr} {k : Nat} {t : TGs} {n : Nat} {pos : Pos} (hc : X.calm = true) (hp : PGs X es t) (hst : (assignEach es X.env).findIdx? (·.1) = none := by rfl) (hn : (assignEach es X.env).length = n := by rfl) : PG X (.Tuple es k pos) (gTup K n t) := by
  subst h; subst hn
  exact pg_tup hc hp rfl hst
theorem fldK (h : X.K = K) {e : Expr} {f : Str} {ta : TE} {pos : Pos} (he : PE X e ta) (hb : attributeBase e f X.env (eval e X.env) = eval e X.env) : PE X (.Attribute e f pos) (tFld K ta f) := by subst h; exact pe_fld he hb
end
end G3

set_option Elab.async false
set_option linter.all false
set_option maxRecDepth 100000
set_option maxHeartbeats 1000000
namespace G3
open PySem PySem.Spec PyProof.Rows L2
def top (i : Nat) : Stmt := PySem.Challenge.pw_chipsproved_k13_orientations.main.body.getD i (.Pass ⟨0, 0, 0, 0⟩)
abbrev s_BadGraph___init__ : Stmt := inClass (top 5) 0
abbrev s_BadOrientation___init__ : Stmt := inClass (top 6) 0
abbrev s_is_whole : Stmt := top 7
abbrev s_edge_fault : Stmt := top 8
abbrev s_together : Stmt := top 9
abbrev s_Graph___init__ : Stmt := inClass (top 10) 0
abbrev s_Graph___eq__ : Stmt := inClass (top 10) 1
abbrev s_told_orientation : Stmt := top 11
abbrev s_ordered : Stmt := top 12
abbrev s_is_acyclic : Stmt := top 13
abbrev s_sources : Stmt := top 14
abbrev s_law_pool : Stmt := top 16
abbrev s_law_take : Stmt := top 17
abbrev s_law_pick : Stmt := top 18
abbrev s_law_is_integer : Stmt := top 19
abbrev s_law_same : Stmt := top 20
abbrev s_law_order : Stmt := top 21
abbrev s_law_given : Stmt := top 22
abbrev s_law_graph : Stmt := top 23
abbrev s_law_all_pairs : Stmt := top 24
abbrev s_law_away : Stmt := top 25
abbrev s_law_refused : Stmt := top 26
abbrev s_law_leads : Stmt := top 27
abbrev s_law_first : Stmt := top 28
abbrev s_law_orders : Stmt := top 29
abbrev s_law_count : Stmt := top 30
abbrev s_law_all_ways : Stmt := top 31
abbrev s_law : Stmt := top 32
/-- what the module leaves free -/
structure Bt (mg : Str → Option Value) : Prop where
  len : mg "len" = none
  int : mg "int" = none
  list : mg "list" = none
  tuple : mg "tuple" = none
  range : mg "range" = none
  isinstance : mg "isinstance" = none
  bool : mg "bool" = none
  str : mg "str" = none
  all : mg "all" = none
  any : mg "any" = none
  min : mg "min" = none
  max : mg "max" = none
  sum : mg "sum" = none
  enumerate : mg "enumerate" = none
  zip : mg "zip" = none
  sorted : mg "sorted" = none
  repr : mg "repr" = none
section
variable {P : Program} {w : World} {K : PySem.W.Frag} {mg : Str → Option Value} {base : Heap}
abbrev n_law_take : List Str := ["pool", "many", "digit", "cell", "mixed"]
abbrev p_law_take : List Str := ["pool", "many"]
theorem sc_law_take : FnScope n_law_take p_law_take (defScope s_law_take) := ⟨rfl, rfl, rfl, by decide +kernel, rfl, by decide +kernel, by decide +kernel⟩
/-- a digit from the drawn number's own figures -/
def spTake1 : Sp := fun vs H Q _ => ∃ (a c : Addr) (i d s m : Int), vs = [.ref a, .int m] ∧ H a = some (.lst (poolL c i d s)) ∧ 0 < d ∧ 0 < m ∧ m < 1073741824 ∧
  ∀ r d', 0 ≤ r → r < m → 0 ≤ d' → Q (.int r) (upd H a (.lst (poolL c i d' s)))
theorem ok_take1 (D : DefAt K mg "_law_take" "_law_take" s_law_take) (B : Bt mg) : Has P w K mg base CX0 1 "_law_take" p_law_take spTake1 := by
  refine has_of D sc_law_take (fun _ _ _ _ _ _ us hl => match us, hl with | [_, _], _ => rfl) (fun vs H Q E h => ?_) (fun f cdv A outer s H vs Q E hr h => ?_)
  · obtain ⟨a, c, i, d, s, m, rfl, _⟩ := h
    rfl
  · obtain ⟨a, c, i, d, s0, m, rfl, hp, hd, hm, hm2, q⟩ := h
    refine ⟨_, (pss_cons (ps_if (pt_cmpR op_gt (pe_ix (ixL (K := K) rfl) (pv 0) pe_int (fun _ _ => rfl)) pe_int (nomark _)) (pss_cons (ps_set (i := 2) sc_law_take.nd rfl (.inl rfl) (pe_op op_mod (pe_callTy call_int1 rfl B.int (by decide +kernel) (pa_cons (pe_ix (ixL (K := K) rfl) (pv 0) pe_int (fun _ _ => rfl)) pa_nil)) (pv 1)))
  (pss_cons (ps_asg (pe_op op_fdiv (pe_ix (ixL (K := K) rfl) (pv 0) pe_int (fun _ _ => rfl)) (pv 1)) (pg_sub (pv 0) pe_int set_list))
  (pss_one (ps_ret (pv 2))))) pss_nil)
  pss_never), ?_⟩
    have hL := SqL.of (K := K) hp
    refine ⟨_, rfl, _, _, 2, .int d, rfl, rfl, hL, atI_nat (j := 2) rfl, _, _, rfl, rfl, _, rfl, ?_⟩
    refine ifD (fun _ => ?_) (fun e => absurd hd e)
    -- digit = int(pool[2]) % many
    refine ⟨_, rfl, _, _, 2, .int d, rfl, rfl, hL, atI_nat (j := 2) rfl, .inl ⟨d, rfl, ?_⟩⟩
    refine ⟨_, rfl, _, _, rfl, rfl, hm, ?_⟩
    -- pool[2] = pool[2] // many
    refine ⟨_, rfl, _, _, 2, .int d, rfl, rfl, hL, atI_nat (j := 2) rfl, _, rfl, _, _, rfl, rfl, ⟨hm, hm2⟩, _, rfl, a, _, 2, 2, rfl, rfl, hp, rfl, ?_⟩
    refine ⟨_, rfl, ?_⟩
    exact q _ _ (Int.emod_nonneg _ (by omega)) (Int.emod_lt_of_pos _ hm) (Int.ediv_nonneg (by omega) (by omega))
/-- the law's draw: any number below many, nothing else is seen of it -/
def spTake0 : Sp := fun vs H Q _ => ∃ (a c : Addr) (i d s m : Int) (ns : List Int), vs = [.ref a, .int m] ∧ H a = some (.lst (poolL c i d s)) ∧ H c = some (.lst (ns.map V.int)) ∧ (∀ n ∈ ns, (0 : Int) ≤ n) ∧ 0 ≤ i ∧ 0 ≤ d ∧ 0 ≤ s ∧ s < 2147483647 ∧ 0 < m ∧ m < 1073741824 ∧
  ∀ r i' d' s', 0 ≤ r → r < m → 0 ≤ i' → 0 ≤ d' → 0 ≤ s' → s' < 2147483647 → Q (.int r) (upd H a (.lst (poolL c i' d' s')))
theorem ok_take0 (D : DefAt K mg "_law_take" "_law_take" s_law_take) (B : Bt mg) : Has P w K mg base CX0 2 "_law_take" p_law_take spTake0 := by
  have h_law_take : Has P w K mg base CX0 1 "_law_take" p_law_take spTake1 := ok_take1 D B
  refine has_of D sc_law_take (fun _ _ _ _ _ _ us hl => match us, hl with | [_, _], _ => rfl) (fun vs H Q E h => ?_) (fun f cdv A outer s H vs Q E hr h => ?_)
  · obtain ⟨a, c, i, d, s, m, ns, rfl, _⟩ := h
    rfl
  · obtain ⟨a, c, i, d, s0, m, ns, rfl, hp, hc, hns, hi, hd, hs, hs2, hm, hm2, q⟩ := h
    refine ⟨_, (pss_cons (ps_if (pt_cmpR op_gt (pe_ix (ixL (K := K) rfl) (pv 0) pe_int (fun _ _ => rfl)) pe_int (nomark _)) (pss_cons (ps_set (i := 2) sc_law_take.nd rfl (.inl rfl) (pe_op op_mod (pe_callTy call_int1 rfl B.int (by decide +kernel) (pa_cons (pe_ix (ixL (K := K) rfl) (pv 0) pe_int (fun _ _ => rfl)) pa_nil)) (pv 1)))
  (pss_cons (ps_asg (pe_op op_fdiv (pe_ix (ixL (K := K) rfl) (pv 0) pe_int (fun _ _ => rfl)) (pv 1)) (pg_sub (pv 0) pe_int set_list))
  (pss_one (ps_ret (pv 2))))) pss_nil)
  (pss_cons (ps_set (i := 3) sc_law_take.nd rfl (.inl rfl) pe_int)
  (Evl.pss_cut (ps_if (pt_cmpR op_lt (pe_ix (ixL (K := K) rfl) (pv 0) pe_int (fun _ _ => rfl)) (pe_callB (lenK (K := K) rfl) rfl B.len PySem.boot_len (pa_cons (pe_ix (ixL (K := K) rfl) (pv 0) pe_int (fun _ _ => rfl)) pa_nil)) (nomark _)) (pss_one (ps_set (i := 3) sc_law_take.nd rfl (.inl rfl) (pe_ix (ixL (K := K) rfl) (pe_ix (ixL (K := K) rfl) (pv 0) pe_int (fun _ _ => rfl)) (pe_ix (ixL (K := K) rfl) (pv 0) pe_int (fun _ _ => rfl)) (fun _ _ => rfl)))) pss_nil)
  (pss_cons (ps_asg (pe_op op_add (pe_ix (ixL (K := K) rfl) (pv 0) pe_int (fun _ _ => rfl)) pe_int) (pg_sub (pv 0) pe_int set_list))
  (pss_cons (ps_if (pt_cmpR op_ge (pv 3) (pe_op op_pow pe_int pe_int) (nomark _)) (pss_cons (ps_asg (pe_op op_fdiv (pv 3) pe_int) (pg_sub (pv 0) pe_int set_list))
  (pss_one (ps_ret (pe_h h_law_take hr pass0 (pa_cons (pv 0) (pa_cons (pv 1) pa_nil)))))) pss_nil)
  (pss_cons (ps_asg (pe_op op_mod (pe_callTy call_int1 rfl B.int (by decide +kernel) (pa_cons (pe_op op_add (pe_op op_add (pe_op op_mul (pe_ix (ixL (K := K) rfl) (pv 0) pe_int (fun _ _ => rfl)) pe_int) (pe_op op_mul (pv 3) pe_int)) (pe_op op_mul (pe_ix (ixL (K := K) rfl) (pv 0) pe_int (fun _ _ => rfl)) pe_int)) pa_nil)) pe_int) (pg_sub (pv 0) pe_int set_list))
  (pss_cons (ps_set (i := 4) sc_law_take.nd rfl (.inl rfl) (pe_op op_mod (pe_callTy call_int1 rfl B.int (by decide +kernel) (pa_cons (pe_op op_add (pe_op op_add (pe_op op_mul (pe_ix (ixL (K := K) rfl) (pv 0) pe_int (fun _ _ => rfl)) (pe_ix (ixL (K := K) rfl) (pv 0) pe_int (fun _ _ => rfl))) (pe_op op_mul (pe_ix (ixL (K := K) rfl) (pv 0) pe_int (fun _ _ => rfl)) pe_int)) pe_int) pa_nil)) pe_int))
  (pss_one (ps_ret (pe_op op_mod (pe_callTy call_int1 rfl B.int (by decide +kernel) (pa_cons (pe_op op_fdiv (pv 4) pe_int) pa_nil)) (pv 1))))))))))), ?_⟩
    have hL := SqL.of (K := K) hp
    have hC := SqL.of (K := K) hc
    have nca : c ≠ a := ne_of hc hp (fun e => by
      have e1 := HO.lst.inj e
      cases ns with
      | nil => cases e1
      | cons z r =>
        have := (List.cons.inj e1).1
        cases this)
    refine ⟨_, rfl, _, _, 2, .int d, rfl, rfl, hL, atI_nat (j := 2) rfl, _, _, rfl, rfl, _, rfl, ?_⟩
    refine ifD (fun _ => ?_) (fun d0 => ?_)
    · refine ⟨_, rfl, _, _, 2, .int d, rfl, rfl, hL, atI_nat (j := 2) rfl, .inl ⟨d, rfl, ?_⟩⟩
      refine ⟨_, rfl, _, _, rfl, rfl, hm, ?_⟩
      refine ⟨_, rfl, _, _, 2, .int d, rfl, rfl, hL, atI_nat (j := 2) rfl, _, rfl, _, _, rfl, rfl, ⟨hm, hm2⟩, _, rfl, a, _, 2, 2, rfl, rfl, hp, rfl, ?_⟩
      refine ⟨_, rfl, ?_⟩
      exact q _ i (d / m) s0 (Int.emod_nonneg _ (by omega)) (Int.emod_lt_of_pos _ hm) hi (Int.ediv_nonneg (by omega) (by omega)) hs hs2
    · have d0 : d = 0 := by omega
      subst d0
      refine ⟨fun σ' H' => H' = H ∧ ∃ (y1 y2 : Option V) (cell : Int), 0 ≤ cell ∧ σ' = [some (.ref a), some (.int m), y1, some (.int cell), y2], ?_, ?_⟩
      · refine ⟨_, rfl, _, _, 1, .int i, rfl, rfl, hL, atI_nat (j := 1) rfl, _, rfl, _, _, 0, .ref c, rfl, rfl, hL, atI_nat (j := 0) rfl, _, _, rfl, .inl ⟨_, hC, rfl⟩, _, _, rfl, rfl, _, rfl, ?_⟩
        refine ifD (fun hlt => ?_) (fun _ => ?_)
        · have hl2 : i.toNat < ns.length := by
            rw [List.length_map] at hlt
            omega
          refine ⟨_, rfl, _, _, 0, .ref c, rfl, rfl, hL, atI_nat (j := 0) rfl, _, rfl, _, _, 1, .int i, rfl, rfl, hL, atI_nat (j := 1) rfl, _, _, i, .int (ns[i.toNat]), rfl, rfl, hC, ?_, ?_⟩
          · exact atI_int hi (getMap hl2)
          · exact ⟨rfl, _, _, _, hns _ (List.getElem_mem hl2), rfl⟩
        · exact ⟨rfl, _, _, _, Int.le_refl 0, rfl⟩
      · rintro σ' H' ⟨rfl, y1, y2, cell, hcell, rfl⟩
        -- pool[1] = pool[1] + 1
        refine ⟨_, rfl, _, _, 1, .int i, rfl, rfl, hL, atI_nat (j := 1) rfl, _, _, rfl, rfl, _, rfl, a, _, 1, 1, rfl, rfl, hp, rfl, ?_⟩
        have hp1 : (upd H' a (.lst (poolL c (i + 1) 0 s0))) a = some (.lst (poolL c (i + 1) 0 s0)) := upd_same
        have hc1 : (upd H' a (.lst (poolL c (i + 1) 0 s0))) c = some (.lst (ns.map V.int)) := by rw [upd_ne nca]; exact hc
        have hL1 := SqL.of (K := K) hp1
        -- if cell >= 10 ** 18
        refine ⟨_, rfl, _, _, rfl, rfl, ⟨by decide, by decide, by decide⟩, _, _, rfl, rfl, _, rfl, ?_⟩
        refine ifD (fun hbig => ?_) (fun _ => ?_)
        · have hbig : (10 : Int) ^ (18 : Int).toNat ≤ cell := hbig
          have h18 : (10 : Int) ^ (18 : Int).toNat = 1000000000000000000 := by decide
          rw [h18] at hbig
          refine ⟨_, rfl, _, _, rfl, rfl, ⟨by decide, by decide⟩, _, rfl, a, _, 2, 2, rfl, rfl, hp1, rfl, ?_⟩
          refine ⟨_, rfl, _, rfl, a, c, i + 1, cell / 2, s0, m, rfl, upd_same, by omega, hm, hm2, fun r d' h1 h2 h3 => ?_⟩
          rw [upd_upd, upd_upd]
          exact q _ _ _ _ h1 h2 (by omega) h3 hs hs2
        · -- pool[3] = ..
          refine ⟨_, rfl, _, _, 3, .int s0, rfl, rfl, hL1, atI_nat (j := 3) rfl, _, _, rfl, rfl, .inr ⟨by decide, by decide⟩, _, rfl, _, _, rfl, rfl, .inr ⟨by decide, by decide⟩, _, _, rfl, rfl,
            _, rfl, _, _, 1, .int (i + 1), rfl, rfl, hL1, atI_nat (j := 1) rfl, _, _, rfl, rfl, .inr ⟨by decide, by decide⟩, _, _, rfl, rfl, .inl ⟨_, rfl, ?_⟩⟩
          obtain ⟨s1, es1⟩ : ∃ s1, s1 = (s0 * 48271 + cell * 69621 + (i + 1) * 613) % 2147483647 := ⟨_, rfl⟩
          have hx : 0 ≤ s1 := es1 ▸ Int.emod_nonneg (s0 * 48271 + cell * 69621 + (i + 1) * 613) (show (2147483647 : Int) ≠ 0 by decide)
          have hy : s1 < 2147483647 := es1 ▸ Int.emod_lt_of_pos (s0 * 48271 + cell * 69621 + (i + 1) * 613) (show (0 : Int) < 2147483647 by decide)
          refine ⟨_, _, rfl, rfl, (show (0 : Int) < 2147483647 by decide), _, rfl, a, _, 3, 3, rfl, rfl, hp1, rfl, ?_⟩
          rw [upd_upd]
          have hp2 : (upd H' a (.lst (poolL c (i + 1) 0 ((s0 * 48271 + cell * 69621 + (i + 1) * 613) % 2147483647)))) a = some (.lst (poolL c (i + 1) 0 s1)) := es1 ▸ upd_same
          have hL2 := SqL.of (K := K) hp2
          refine ⟨_, rfl, _, _, 3, .int s1, rfl, rfl, hL2, atI_nat (j := 3) rfl, _, rfl, _, _, 3, .int s1, rfl, rfl, hL2, atI_nat (j := 3) rfl, _, _, rfl, rfl, .inl ⟨by omega, by omega⟩,
            _, rfl, _, _, 3, .int s1, rfl, rfl, hL2, atI_nat (j := 3) rfl, _, _, rfl, rfl, .inr ⟨by decide, by decide⟩, _, _, rfl, rfl, _, _, rfl, rfl, .inl ⟨_, rfl, ?_⟩⟩
          refine ⟨_, _, rfl, rfl, (show (0 : Int) < 1000000007 by decide), ?_⟩
          -- return int(mixed // 3) % many
          refine ⟨_, rfl, _, _, rfl, rfl, ⟨by decide, by decide⟩, .inl ⟨_, rfl, ?_⟩⟩
          refine ⟨_, rfl, _, _, rfl, rfl, hm, ?_⟩
          exact q _ _ _ _ (Int.emod_nonneg _ (by omega)) (Int.emod_lt_of_pos _ hm) (by omega) (Int.le_refl 0) (es1 ▸ hx) (es1 ▸ hy)
/-- .. over the pool as it is seen from outside -/
def spTake : Sp := fun vs H Q _ => ∃ (a : Addr) (m : Int), vs = [.ref a, .int m] ∧ PoolAt H a ∧ 0 < m ∧ m < 1073741824 ∧ ∀ r, 0 ≤ r → r < m → Q (.int r) H
theorem ok_take (D : DefAt K mg "_law_take" "_law_take" s_law_take) (B : Bt mg) : Has P w K mg base CX0 2 "_law_take" p_law_take spTake := by
  obtain ⟨f, fd, F, m, kp, b⟩ := ok_take0 (P := P) (w := w) (base := base) D B
  refine ⟨f, fd, ghost_call F (fun vs H Q E h => ?_) (fun vs H Q E hp ok h => ?_), m, kp, b⟩
  · obtain ⟨a, m, rfl, _⟩ := h
    rfl
  · obtain ⟨a, m, rfl, ⟨c, ns, h1, h2, h3⟩, hm, hm2, q⟩ := h
    obtain ⟨i, d, s, hi, hd, hs, hs2, ok1⟩ := pool_open ok h1
    have nca : c ≠ a := ne_of h2 h1 (fun e => by cases e)
    refine ⟨_, fun v H2 => ∃ r i' d' s', v = .int r ∧ 0 ≤ r ∧ r < m ∧ 0 ≤ i' ∧ 0 ≤ d' ∧ 0 ≤ s' ∧ s' < 2147483647 ∧ H2 = upd H a (.lst (poolL c i' d' s')), fun _ _ _ => False, Gst.upd h1 (fun xs => ext_tup) (fun o u z => by cases z) (fun ps z => by cases z), ok1, ?_, ?_⟩
    · refine ⟨a, c, i, d, s, m, ns, rfl, upd_same, by rw [upd_ne nca]; exact h2, h3, hi, hd, hs, hs2, hm, hm2, fun r i' d' s' r1 r2 r3 r4 r5 r6 => ?_⟩
      exact ⟨r, i', d', s', rfl, r1, r2, r3, r4, r5, r6, upd_upd⟩
    · rintro v H2 hp2 ok2 ⟨r, i', d', s', rfl, r1, r2, r3, r4, r5, r6, rfl⟩
      have e2 : (upd H a (.lst (poolL c i' d' s'))) a = some (.lst (poolL c i' d' s')) := upd_same
      refine ⟨_, Gst.upd e2 (fun xs => lst_tup) (fun o u z => by cases z) (fun ps z => by cases z), pool_close ok2 e2 r3 r4 r5 r6, ?_⟩
      rw [upd_upd]
      have e : upd H a (PoolO a c) = H := by
        funext b'
        by_cases hb : b' = a
        · subst hb; rw [upd_same, h1]
        · rw [upd_ne hb]
      rw [e]
      exact q r r1 r2

/-! ### _law_pick -/
abbrev n_law_pick : List Str := ["pool", "rows"]
abbrev p_law_pick : List Str := ["pool", "rows"]
theorem sc_law_pick : FnScope n_law_pick p_law_pick (defScope s_law_pick) := ⟨rfl, rfl, rfl, by decide +kernel, rfl, by decide +kernel, by decide +kernel⟩
abbrev n_law_is_integer : List Str := ["actual"]
abbrev p_law_is_integer : List Str := ["actual"]
theorem sc_law_is_integer : FnScope n_law_is_integer p_law_is_integer (defScope s_law_is_integer) := ⟨rfl, rfl, rfl, by decide +kernel, rfl, by decide +kernel, by decide +kernel⟩
abbrev n_law_same : List Str := ["actual", "due", "k"]
abbrev p_law_same : List Str := ["actual", "due"]
theorem sc_law_same : FnScope n_law_same p_law_same (defScope s_law_same) := ⟨rfl, rfl, rfl, by decide +kernel, rfl, by decide +kernel, by decide +kernel⟩
def spPick (K : PySem.W.Frag) : Sp := fun vs H Q _ => ∃ (a b : Addr) (xs : List V), vs = [.ref a, .ref b] ∧ PoolAt H a ∧ SqL K H b xs ∧ 0 < xs.length ∧ xs.length < 1000000000 ∧ ∀ (i : Nat) v, xs[i]? = some v → Q v H
theorem ok_pick (D : DefAt K mg "_law_pick" "_law_pick" s_law_pick) (B : Bt mg) (h_law_take : Has P w K mg base CX0 2 "_law_take" p_law_take spTake) : Has P w K mg base CX0 3 "_law_pick" p_law_pick (spPick K) := by
  refine has_of D sc_law_pick (fun _ _ _ _ _ _ us hl => match us, hl with | [_, _], _ => rfl) (fun vs H Q E h => ?_) (fun f cdv A outer s H vs Q E hr h => ?_)
  · obtain ⟨a, b, xs, rfl, _⟩ := h
    rfl
  · obtain ⟨a, b, xs, rfl, hp, hb, h0, h1, q⟩ := h
    refine ⟨_, (pss_one (ps_ret (pe_ix (ixL (K := K) rfl) (pv 1) (pe_h h_law_take hr pass0 (pa_cons (pv 0) (pa_cons (pe_callB (lenK (K := K) rfl) rfl B.len PySem.boot_len (pa_cons (pv 1) pa_nil)) pa_nil))) (fun _ _ => rfl)))), ?_⟩
    refine ⟨_, rfl, _, rfl, _, rfl, _, xs.length, rfl, .inl ⟨_, hb, rfl⟩, ?_⟩
    refine ⟨a, _, rfl, hp, by omega, by omega, fun r r0 r1 => ?_⟩
    have hr : r.toNat < xs.length := by omega
    exact ⟨_, _, r, xs[r.toNat], rfl, rfl, hb, atI_int r0 (List.getElem?_eq_getElem hr), q _ _ (List.getElem?_eq_getElem hr)⟩
/-! ### _law_is_integer -/
def spIsI (K : PySem.W.Frag) : Sp := fun vs H Q _ => ∃ (x : V) (d : PyData), vs = [x] ∧ Dp K H x d ∧ Q (.bl (isI x)) H
theorem ok_is_integer (D : DefAt K mg "_law_is_integer" "_law_is_integer" s_law_is_integer) (B : Bt mg) : Has P w K mg base CX0 1 "_law_is_integer" p_law_is_integer (spIsI K) := by
  refine has_of D sc_law_is_integer (fun _ _ _ _ _ _ us hl => match us, hl with | [_], _ => rfl) (fun vs H Q E h => ?_) (fun f cdv A outer s H vs Q E hr h => ?_)
  · obtain ⟨x, d, rfl, _⟩ := h
    rfl
  · obtain ⟨x, d, rfl, hd, q⟩ := h
    refine ⟨_, (pss_one (ps_ret (pe_and (pe_callB (isiK (K := K) rfl) rfl B.isinstance (by decide +kernel) (pa_cons (pv 0) (pa_cons (pe_bltn (v := .ty "int") (u := .type "int") rfl B.int (by decide +kernel) rfl) pa_nil))) (pe_one (pe_not (pe_callB (isiK (K := K) rfl) rfl B.isinstance (by decide +kernel) (pa_cons (pv 0) (pa_cons (pe_bltn (v := .ty "bool") (u := .type "bool") rfl B.bool (by decide +kernel) rfl) pa_nil)))))))), ?_⟩
    have ty := Dp.ty hd
    refine ⟨_, rfl, _, _, _, _, _, rfl, .ty _, ty, kt_int d, _, rfl, ?_⟩
    cases hd with
    | non => exact iteF q
    | bl b => exact iteT ⟨_, rfl, _, _, _, _, _, rfl, .ty _, ty, kt_bool _, _, rfl, q⟩
    | int i => exact iteT ⟨_, rfl, _, _, _, _, _, rfl, .ty _, ty, kt_bool _, _, rfl, q⟩
    | str x => exact iteF q
    | lst _ _ => exact iteF q
    | tup _ _ => exact iteF q

/-! ### _law_same -/
def spSame (K : PySem.W.Frag) (n : Nat) : Sp := fun vs H Q _ => ∃ (x y : V) (d : PyData), vs = [x, y] ∧ Dp K H x d ∧ Dp K H y d ∧ Fit n d ∧ ∀ H', Same H H' → Q (.bl true) H'
theorem ok_same (D : DefAt K mg "_law_same" "_law_same" s_law_same) (B : Bt mg) (h_law_is_integer : Has P w K mg base CX0 1 "_law_is_integer" p_law_is_integer (spIsI K)) : ∀ n, Has P w K mg base CX0 (n + 1) "_law_same" p_law_same (spSame K n)
  | 0 => has_false D (fun _ _ _ _ _ _ us hl => match us, hl with | [_, _], _ => rfl) (fun vs H Q E h => by obtain ⟨x, y, d, _, _, _, h, _⟩ := h; exact h)
  | n + 1 => by
    have h_law_same := ok_same D B h_law_is_integer n
    refine has_of D sc_law_same (fun _ _ _ _ _ _ us hl => match us, hl with | [_, _], _ => rfl) (fun vs H Q E h => ?_) (fun f cdv A outer s H vs Q E hr h => ?_)
    · obtain ⟨x, y, d, rfl, _⟩ := h
      rfl
    · obtain ⟨x, y, d, rfl, hx, hy, hn, q⟩ := h
      have hr0 : Room 1 _ := hr.mono (by omega)
      refine ⟨_, (pss_cons (ps_if (pt_val (pe_callB (isiK (K := K) rfl) rfl B.isinstance (by decide +kernel) (pa_cons (pv 1) (pa_cons (pe_bltn (v := .ty "tuple") (u := .type "tuple") rfl B.tuple (by decide +kernel) rfl) pa_nil)))) (pss_cons (ps_if (PW.pt (pw_or (pt_not (pt_val (pe_callB (isiK (K := K) rfl) rfl B.isinstance (by decide +kernel) (pa_cons (pv 0) (pa_cons (pe_bltn (v := .ty "tuple") (u := .type "tuple") rfl B.tuple (by decide +kernel) rfl) pa_nil))))) (pw_or1 (pt_cmpR op_ne (pe_callB (lenK (K := K) rfl) rfl B.len PySem.boot_len (pa_cons (pv 0) pa_nil)) (pe_callB (lenK (K := K) rfl) rfl B.len PySem.boot_len (pa_cons (pv 1) pa_nil)) (nomark _))))) (pss_one (ps_ret pe_bl)) pss_nil)
  (pss_one (ps_ret (pe_callB (allK (K := K) rfl rfl) rfl B.all (by decide +kernel) (pa_cons (pe_lc (own := [("k", 2)]) (g := gName 2) (tt := tYes) rfl sc_law_same.nd (pi_range1 rfl B.range (pa_cons (pe_callB (lenK (K := K) rfl) rfl B.len PySem.boot_len (pa_cons (pv 1) pa_nil)) pa_nil)) (blkOk_by (N := n_law_same) (sc := defScope s_law_same) (by decide +kernel)) (fun _ _ _ _ _ => (pg_name (i := 2) sc_law_same.nd rfl (.inl rfl))) (fun _ _ _ _ _ => pts_nil) (fun _ _ _ _ _ => (pe_h h_law_same hr pass0 (pa_cons (pe_ix (ixQ (K := K) rfl) (pv 0) (pv 2) (fun _ _ => rfl)) (pa_cons (pe_ix (ixQ (K := K) rfl) (pv 1) (pv 2) (fun _ _ => rfl)) pa_nil))))) pa_nil))))) pss_nil)
  (pss_cons (ps_if (pt_val (pe_callB (isiK (K := K) rfl) rfl B.isinstance (by decide +kernel) (pa_cons (pv 1) (pa_cons (pe_bltn (v := .ty "list") (u := .type "list") rfl B.list (by decide +kernel) rfl) pa_nil)))) (pss_cons (ps_if (PW.pt (pw_or (pt_not (pt_val (pe_callB (isiK (K := K) rfl) rfl B.isinstance (by decide +kernel) (pa_cons (pv 0) (pa_cons (pe_bltn (v := .ty "list") (u := .type "list") rfl B.list (by decide +kernel) rfl) pa_nil))))) (pw_or1 (pt_cmpR op_ne (pe_callB (lenK (K := K) rfl) rfl B.len PySem.boot_len (pa_cons (pv 0) pa_nil)) (pe_callB (lenK (K := K) rfl) rfl B.len PySem.boot_len (pa_cons (pv 1) pa_nil)) (nomark _))))) (pss_one (ps_ret pe_bl)) pss_nil)
  (pss_one (ps_ret (pe_callB (allK (K := K) rfl rfl) rfl B.all (by decide +kernel) (pa_cons (pe_lc (own := [("k", 2)]) (g := gName 2) (tt := tYes) rfl sc_law_same.nd (pi_range1 rfl B.range (pa_cons (pe_callB (lenK (K := K) rfl) rfl B.len PySem.boot_len (pa_cons (pv 1) pa_nil)) pa_nil)) (blkOk_by (N := n_law_same) (sc := defScope s_law_same) (by decide +kernel)) (fun _ _ _ _ _ => (pg_name (i := 2) sc_law_same.nd rfl (.inl rfl))) (fun _ _ _ _ _ => pts_nil) (fun _ _ _ _ _ => (pe_h h_law_same hr pass0 (pa_cons (pe_ix (ixQ (K := K) rfl) (pv 0) (pv 2) (fun _ _ => rfl)) (pa_cons (pe_ix (ixQ (K := K) rfl) (pv 1) (pv 2) (fun _ _ => rfl)) pa_nil))))) pa_nil))))) pss_nil)
  (pss_cons (ps_if (pt_cmpR op_isN (pv 1) pe_non (nomark _)) (pss_one (ps_ret (pe_cmpR op_isN (pv 0) pe_non (nomark _)))) pss_nil)
  (pss_cons (ps_if (pt_val (pe_callB (isiK (K := K) rfl) rfl B.isinstance (by decide +kernel) (pa_cons (pv 1) (pa_cons (pe_bltn (v := .ty "bool") (u := .type "bool") rfl B.bool (by decide +kernel) rfl) pa_nil)))) (pss_one (ps_ret (pe_and (pe_callB (isiK (K := K) rfl) rfl B.isinstance (by decide +kernel) (pa_cons (pv 0) (pa_cons (pe_bltn (v := .ty "bool") (u := .type "bool") rfl B.bool (by decide +kernel) rfl) pa_nil))) (pe_one (pe_cmpR op_eq (pv 0) (pv 1) (nomark _)))))) pss_nil)
  (pss_cons (ps_if (pt_val (pe_callB (isiK (K := K) rfl) rfl B.isinstance (by decide +kernel) (pa_cons (pv 1) (pa_cons (pe_bltn (v := .ty "str") (u := .type "str") rfl B.str (by decide +kernel) rfl) pa_nil)))) (pss_one (ps_ret (pe_and (pe_callB (isiK (K := K) rfl) rfl B.isinstance (by decide +kernel) (pa_cons (pv 0) (pa_cons (pe_bltn (v := .ty "str") (u := .type "str") rfl B.str (by decide +kernel) rfl) pa_nil))) (pe_one (pe_cmpR op_eq (pv 0) (pv 1) (nomark _)))))) pss_nil)
  (pss_one (ps_ret (pe_and (pe_h h_law_is_integer hr pass0 (pa_cons (pv 0) pa_nil)) (pe_one (pe_cmpR op_eq (pv 0) (pv 1) (nomark _))))))))))), ?_⟩
      have tx := Dp.ty hx
      have ty := Dp.ty hy
      refine ⟨_, rfl, _, _, _, _, _, rfl, .ty _, ty, kt_tuple d, _, rfl, ?_⟩
      cases hy with
      | non =>
        cases hx
        refine iteF ⟨_, rfl, _, _, _, _, _, rfl, .ty _, ty, kt_list _, _, rfl, iteF ?_⟩
        exact ⟨_, rfl, rfl, _, rfl, iteT ⟨_, rfl, rfl, q _ (Same.refl _)⟩⟩
      | bl b =>
        cases hx
        refine iteF ⟨_, rfl, _, _, _, _, _, rfl, .ty _, ty, kt_list _, _, rfl, iteF ?_⟩
        refine ⟨_, rfl, rfl, _, rfl, iteF ?_⟩
        refine ⟨_, rfl, _, _, _, _, _, rfl, .ty _, ty, kt_bool _, _, rfl, iteT ?_⟩
        refine ⟨_, rfl, _, _, _, _, _, rfl, .ty _, ty, kt_bool _, _, rfl, iteT ?_⟩
        refine ⟨_, rfl, _, rfl, by cases b <;> rfl, ?_⟩
        exact bl_t rfl (q _ (Same.refl _))
      | int i =>
        cases hx
        refine iteF ⟨_, rfl, _, _, _, _, _, rfl, .ty _, ty, kt_list _, _, rfl, iteF ?_⟩
        refine ⟨_, rfl, rfl, _, rfl, iteF ?_⟩
        refine ⟨_, rfl, _, _, _, _, _, rfl, .ty _, ty, kt_bool _, _, rfl, iteF ?_⟩
        refine ⟨_, rfl, _, _, _, _, _, rfl, .ty _, ty, kt_str _, _, rfl, iteF ?_⟩
        refine ⟨_, rfl, _, _, rfl, .int i, _, rfl, iteT ?_⟩
        refine ⟨_, rfl, _, rfl, rfl, ?_⟩
        exact bl_t rfl (q _ (Same.refl _))
      | str z =>
        cases hx
        refine iteF ⟨_, rfl, _, _, _, _, _, rfl, .ty _, ty, kt_list _, _, rfl, iteF ?_⟩
        refine ⟨_, rfl, rfl, _, rfl, iteF ?_⟩
        refine ⟨_, rfl, _, _, _, _, _, rfl, .ty _, ty, kt_bool _, _, rfl, iteF ?_⟩
        refine ⟨_, rfl, _, _, _, _, _, rfl, .ty _, ty, kt_str _, _, rfl, iteT ?_⟩
        refine ⟨_, rfl, _, _, _, _, _, rfl, .ty _, ty, kt_str _, _, rfl, iteT ?_⟩
        refine ⟨_, rfl, _, rfl, rfl, ?_⟩
        exact bl_t rfl (q _ (Same.refl _))
      | @lst b ys ds h2 t2 =>
        cases hx with
        | @lst a xs _ h1 t1 =>
        have hz : ds.length ≤ 100000 := hn.1
        have l1 := DpAll.len t1
        have l2 := DpAll.len t2
        refine iteF ⟨_, rfl, _, _, _, _, _, rfl, .ty _, ty, kt_list _, _, rfl, iteT ?_⟩
        refine ⟨_, rfl, _, _, _, _, _, rfl, .ty _, tx, kt_list _, _, rfl, iteF ?_⟩
        refine ⟨_, rfl, _, xs.length, rfl, .inl ⟨_, h1, rfl⟩, _, rfl, _, ys.length, rfl, .inl ⟨_, h2, rfl⟩, rfl, _, rfl, ?_⟩
        refine ifN (fun e => absurd (by rw [l1, l2]) e) (fun _ => ?_)
        refine ⟨_, rfl, _, ys.length, rfl, .inl ⟨_, h2, rfl⟩, _, rfl, by omega, by omega, fun L nL => ?_⟩
        refine lc_range (lo := 0) (n := ys.length) (fun i H' => Same H H' ∧ H' L = some (.lst ((List.replicate i true).map V.bl))) ⟨same_upd nL, upd_same⟩ ?_ ?_
        · rintro i H' hi ⟨sm, hl⟩
          refine ⟨rfl, yes_ ?_⟩
          have hi2 : i < ds.length := by omega
          obtain ⟨v1, e1, d1⟩ := DpAll.get t1 hi2
          obtain ⟨v2, e2, d2⟩ := DpAll.get t2 hi2
          refine ⟨_, rfl, _, rfl, .inl ⟨_, _, _, v1, rfl, rfl, sm.seq h1, by rw [Int.zero_add]; exact atI_nat e1, ?_⟩⟩
          refine ⟨_, rfl, _, rfl, .inl ⟨_, _, _, v2, rfl, rfl, sm.seq h2, by rw [Int.zero_add]; exact atI_nat e2, ?_⟩⟩
          refine ⟨_, _, _, rfl, Dp.same sm d1, Dp.same sm d2, hn.2 _ (List.getElem_mem hi2), fun H2 sm2 => ?_⟩
          refine ⟨_, sm2 _ _ hl, size_lt (by rw [len_rep]; omega), same_mut (sm.trans sm2) nL, ?_⟩
          rw [upd_same, List.replicate_succ', List.map_append]; rfl
        · rintro H' ⟨sm, hl⟩
          refine ⟨_, _, rfl, SqL.of hl, ?_⟩
          rw [all_rep]
          exact q _ sm
      | @tup b ys ds h2 t2 =>
        cases hx with
        | @tup a xs _ h1 t1 =>
        have hz : ds.length ≤ 100000 := hn.1
        have l1 := DpAll.len t1
        have l2 := DpAll.len t2
        refine iteT ?_
        refine ⟨_, rfl, _, _, _, _, _, rfl, .ty _, tx, kt_tuple _, _, rfl, iteF ?_⟩
        refine ⟨_, rfl, _, xs.length, rfl, .inr ⟨_, h1, rfl⟩, _, rfl, _, ys.length, rfl, .inr ⟨_, h2, rfl⟩, rfl, _, rfl, ?_⟩
        refine ifN (fun e => absurd (by rw [l1, l2]) e) (fun _ => ?_)
        refine ⟨_, rfl, _, ys.length, rfl, .inr ⟨_, h2, rfl⟩, _, rfl, by omega, by omega, fun L nL => ?_⟩
        refine lc_range (lo := 0) (n := ys.length) (fun i H' => Same H H' ∧ H' L = some (.lst ((List.replicate i true).map V.bl))) ⟨same_upd nL, upd_same⟩ ?_ ?_
        · rintro i H' hi ⟨sm, hl⟩
          refine ⟨rfl, yes_ ?_⟩
          have hi2 : i < ds.length := by omega
          obtain ⟨v1, e1, d1⟩ := DpAll.get t1 hi2
          obtain ⟨v2, e2, d2⟩ := DpAll.get t2 hi2
          refine ⟨_, rfl, _, rfl, .inr (.inl ⟨_, _, _, v1, rfl, rfl, Same.seqT sm h1, by rw [Int.zero_add]; exact atI_nat e1, ?_⟩)⟩
          refine ⟨_, rfl, _, rfl, .inr (.inl ⟨_, _, _, v2, rfl, rfl, Same.seqT sm h2, by rw [Int.zero_add]; exact atI_nat e2, ?_⟩)⟩
          refine ⟨_, _, _, rfl, Dp.same sm d1, Dp.same sm d2, hn.2 _ (List.getElem_mem hi2), fun H2 sm2 => ?_⟩
          refine ⟨_, sm2 _ _ hl, size_lt (by rw [len_rep]; omega), same_mut (sm.trans sm2) nL, ?_⟩
          rw [upd_same, List.replicate_succ', List.map_append]; rfl
        · rintro H' ⟨sm, hl⟩
          refine ⟨_, _, rfl, SqL.of hl, ?_⟩
          rw [all_rep]
          exact q _ sm
end
end G3

set_option Elab.async false
set_option linter.all false
set_option maxRecDepth 100000
set_option maxHeartbeats 1000000
namespace G3
open PySem PySem.Spec PyProof.Rows L2
abbrev nV (n : Nat) : V := .int (n : Int)
theorem erase_perm {α : Type} : ∀ {ls : List α} {k : Nat} (h : k < ls.length), (ls[k] :: ls.eraseIdx k).Perm ls
  | [], _, h => absurd h (by simp)
  | x :: r, 0, _ => List.Perm.refl _
  | x :: r, k + 1, h => by
    have ih := erase_perm (ls := r) (k := k) (by simpa using h)
    have hk : k < r.length := by simpa using h
    show (r[k] :: x :: r.eraseIdx k).Perm (x :: r)
    exact (List.Perm.swap _ _ _).trans (ih.cons x)
theorem map_erase {α β : Type} (f : α → β) : ∀ (ls : List α) (k : Nat), (ls.map f).eraseIdx k = (ls.eraseIdx k).map f
  | [], _ => rfl
  | _ :: _, 0 => rfl
  | x :: r, k + 1 => by
    show f x :: (r.map f).eraseIdx k = f x :: (r.eraseIdx k).map f
    rw [map_erase f r k]
theorem rgV_nat (m : Int) : rgV 0 m = (List.range m.toNat).map nV := by
  unfold rgV
  rw [Int.sub_zero]
  apply List.map_congr_left
  intro i _
  rw [Int.zero_add]
section
variable {P : Program} {w : World} {K : PySem.W.Frag} {mg : Str → Option Value} {base : Heap}
abbrev n_law_order : List Str := ["pool", "many", "left", "found", "k"]
abbrev p_law_order : List Str := ["pool", "many"]
theorem sc_law_order : FnScope n_law_order p_law_order (defScope s_law_order) := ⟨rfl, rfl, rfl, by decide +kernel, rfl, by decide +kernel, by decide +kernel⟩
abbrev n_law_given : List Str := ["pool", "row"]
abbrev p_law_given : List Str := ["pool", "row"]
theorem sc_law_given : FnScope n_law_given p_law_given (defScope s_law_given) := ⟨rfl, rfl, rfl, by decide +kernel, rfl, by decide +kernel, by decide +kernel⟩
def spOrder : Sp := fun vs H Q _ => ∃ (a : Addr) (m : Int), vs = [.ref a, .int m] ∧ PoolAt H a ∧ 0 ≤ m ∧ m ≤ 10000 ∧ ∀ (H' : Hp) (p : Addr) (ns : List Nat), Same H H' → H' p = some (.tup (ns.map nV)) → ns.Perm (List.range m.toNat) → Q (.ref p) H'
theorem ok_order (D : DefAt K mg "_law_order" "_law_order" s_law_order) (B : Bt mg) (h_law_take : Has P w K mg base CX0 2 "_law_take" p_law_take spTake) : Has P w K mg base CX0 3 "_law_order" p_law_order spOrder := by
  refine has_of D sc_law_order (fun _ _ _ _ _ _ us hl => match us, hl with | [_, _], _ => rfl) (fun vs H Q E h => ?_) (fun f cdv A outer s H vs Q E hr h => ?_)
  · obtain ⟨a, m, rfl, _⟩ := h
    rfl
  · obtain ⟨a, m, rfl, hp, h0, h1, q⟩ := h
    refine ⟨_, (pss_cons (ps_set (i := 2) sc_law_order.nd rfl (.inl rfl) (pe_listRg rfl rfl B.list (prg_1 rfl B.range (pv 1))))
  (pss_cons (ps_set (i := 3) sc_law_order.nd rfl (.inl rfl) (pe_tup pa_nil))
  (pss_cons (ps_for PassesOwn.never rfl (pi_range1 rfl B.range (pa_cons (pv 1) pa_nil)) (pg_name (i := 4) sc_law_order.nd rfl (.inl rfl)) (pss_one (ps_set (i := 3) sc_law_order.nd rfl (.inl rfl) (pe_op (catK (K := K) rfl) (pv 3) (pe_tup (pa_cons (pe_bm PySem.F.plainAttrs_list PySem.F.slot_list_pop PySem.F.type_list_pop mt_popAt (pv 2) (pa_cons (pe_h h_law_take hr pass0 (pa_cons (pv 0) (pa_cons (pe_callB (lenK (K := K) rfl) rfl B.len PySem.boot_len (pa_cons (pv 2) pa_nil)) pa_nil))) pa_nil)) pa_nil))))))
  (pss_one (ps_ret (pv 3)))))), ?_⟩
    refine ⟨_, rfl, m, rfl, .of_le (by decide) (by omega) (by decide) h0, fun l nl => ?_⟩
    rw [rgV_nat]
    refine ⟨Nat.zero_le _, fun t nt => ?_⟩
    refine ⟨_, rfl, m, rfl, by omega, by omega, for_range (lo := 0) (n := m.toNat) (fun i σ H' => ∃ (fp : Addr) (ls fs : List Nat) (y : Option V), σ = [some (.ref a), some (.int m), some (.ref l), some (.ref fp), y] ∧ Same H H' ∧ H' l = some (.lst (ls.map nV)) ∧ H' fp = some (.tup (fs.map nV)) ∧ fs.length = i ∧ (fs ++ ls).Perm (List.range m.toNat)) ?_ ?_ ?_⟩
    · refine ⟨t, List.range m.toNat, [], none, rfl, (same_upd nl).trans (same_upd nt), ?_, upd_same, rfl, List.Perm.refl _⟩
      rw [upd_ne, upd_same]
      intro e
      rw [← e, upd_same] at nt
      cases nt
    · rintro i σ H' hi ⟨fp, ls, fs, y, rfl, sm, hl, hf, ei, pm⟩
      have el : fs.length + ls.length = m.toNat := by
        have := pm.length_eq
        rwa [List.length_append, List.length_range] at this
      have hl0 : 0 < ls.length := by omega
      have nlH : H l = none := nl
      refine ⟨_, rfl, _, rfl, .inl ⟨rfl, _, SqL.of hl⟩, _, rfl, _, rfl, _, ls.length, rfl, .inl ⟨_, SqL.of hl, by rw [List.length_map]⟩, ?_⟩
      refine ⟨a, _, rfl, hp.same sm, by omega, by omega, fun r r0 r1 => ?_⟩
      have hk : r.toNat < ls.length := by omega
      refine ⟨l, _, r, r.toNat, nV ls[r.toNat], rfl, rfl, hl, by omega, by omega, ?_, getMap hk, ?_⟩
      · rw [List.length_map]; exact seqIndex_of r0 (by omega)
      refine ⟨by show 1 ≤ sizeLine; decide, fun T nT => ?_⟩
      have nfl : fp ≠ l := ne_of hf hl (fun e => by cases e)
      have nlT : l ≠ T := fun e => by rw [← e, upd_same] at nT; cases nT
      have nfT : fp ≠ T := fun e => by rw [← e, upd_ne nfl, hf] at nT; cases nT
      have hT : H' T = none := by rwa [upd_ne (Ne.symm nlT)] at nT
      have hf1 : (upd (upd H' l (.lst ((ls.map nV).eraseIdx r.toNat))) T (.tup [nV ls[r.toNat]])) fp = some (.tup (fs.map nV)) := by rw [upd_ne nfT, upd_ne nfl]; exact hf
      have hT1 : (upd (upd H' l (.lst ((ls.map nV).eraseIdx r.toNat))) T (.tup [nV ls[r.toNat]])) T = some (.tup [nV ls[r.toNat]]) := upd_same
      have hl1 : (upd (upd H' l (.lst ((ls.map nV).eraseIdx r.toNat))) T (.tup [nV ls[r.toNat]])) l = some (.lst ((ls.eraseIdx r.toNat).map nV)) := by rw [upd_ne nlT, upd_same, map_erase]
      have s1 : Same H (upd (upd H' l (.lst ((ls.map nV).eraseIdx r.toNat))) T (.tup [nV ls[r.toNat]])) := (same_mut sm nlH).trans (same_upd nT)
      have pm' : (fs ++ [ls[r.toNat]] ++ ls.eraseIdx r.toNat).Perm (List.range m.toNat) := by
        rw [List.append_assoc]
        exact ((erase_perm hk).append_left fs).trans pm
      refine ⟨fp, T, _, _, rfl, rfl, SqT.of hf1, SqT.of hT1, size_le (by rw [List.length_map]; show fs.length + 1 ≤ 100000; omega), fun e0 => ?_, fun _ e => (nomatch e), fun _ _ p np => ?_⟩
      · have e0 : fs = [] := List.map_eq_nil_iff.mp e0
        subst e0
        exact ⟨T, _, [ls[r.toNat]], _, rfl, s1, hl1, hT1, by rw [← ei]; rfl, pm'⟩
      · refine ⟨p, _, fs ++ [ls[r.toNat]], _, rfl, s1.trans (same_upd np), ?_, ?_, by rw [List.length_append, ei]; rfl, pm'⟩
        · rw [upd_ne (ne_of_none hl1 np)]; exact hl1
        · rw [upd_same, List.map_append]; rfl
    · rintro σ H' ⟨fp, ls, fs, y, rfl, sm, hl, hf, ei, pm⟩
      have el : fs.length + ls.length = m.toNat := by
        have := pm.length_eq
        rwa [List.length_append, List.length_range] at this
      have : ls = [] := List.eq_nil_of_length_eq_zero (by omega)
      subst this
      rw [List.append_nil] at pm
      exact ⟨_, rfl, q _ _ _ sm hf pm⟩
/-! ### _law_given -/
def spGiven (K : PySem.W.Frag) : Sp := fun vs H Q _ => ∃ (a b : Addr) (xs : List V), vs = [.ref a, .ref b] ∧ PoolAt H a ∧ (SqL K H b xs) ∧ ∀ (H' : Hp) (p : Addr), Same H H' → H p = none → (H' p = some (.lst xs) ∨ H' p = some (.tup xs)) → Q (.ref p) H'
theorem ok_given (D : DefAt K mg "_law_given" "_law_given" s_law_given) (B : Bt mg) (h_law_take : Has P w K mg base CX0 2 "_law_take" p_law_take spTake) : Has P w K mg base CX0 3 "_law_given" p_law_given (spGiven K) := by
  refine has_of D sc_law_given (fun _ _ _ _ _ _ us hl => match us, hl with | [_, _], _ => rfl) (fun vs H Q E h => ?_) (fun f cdv A outer s H vs Q E hr h => ?_)
  · obtain ⟨a, b, xs, rfl, _⟩ := h
    rfl
  · obtain ⟨a, b, xs, rfl, hp, hb, q⟩ := h
    refine ⟨_, (pss_one (ps_ret (pe_ifExp (pt_cmpR op_eq (pe_h h_law_take hr pass0 (pa_cons (pv 0) (pa_cons pe_int pa_nil))) pe_int (nomark _)) (pe_callTy (listK (K := K) rfl) rfl B.list (by decide +kernel) (pa_cons (pv 1) pa_nil)) (pe_callTy (tupK (K := K) rfl) rfl B.tuple (by decide +kernel) (pa_cons (pv 1) pa_nil))))), ?_⟩
    refine ⟨_, rfl, a, _, rfl, hp, by decide, by decide, fun r r0 r1 => ?_⟩
    refine ⟨rfl, _, rfl, ifD (fun _ => ?_) (fun _ => ?_)⟩
    · exact ⟨_, rfl, _, _, rfl, .inl hb, fun p np => q _ _ (same_upd np) np (.inl upd_same)⟩
    · exact ⟨_, rfl, _, _, rfl, .inl ⟨hb, fun p np => q _ _ (same_upd np) np (.inr upd_same)⟩⟩
end
end G3

set_option Elab.async false
set_option linter.all false
set_option maxRecDepth 100000
set_option maxHeartbeats 1000000
namespace G3
open PySem PySem.Spec PyProof.Rows L2
/-! ## lists of pairs -/
abbrev Pr : Type := Nat × Nat
def Prs (H : Hp) : List V → List Pr → Prop
  | [], [] => True
  | v :: vs, p :: ps => (∃ t, v = .ref t ∧ H t = some (.tup [nV p.1, nV p.2])) ∧ Prs H vs ps
  | _, _ => False
theorem Prs.mono {H H' : Hp} (e : ∀ t a b, H t = some (.tup [nV a, nV b]) → H' t = some (.tup [nV a, nV b])) : ∀ {vs : List V} {ps : List Pr}, Prs H vs ps → Prs H' vs ps
  | [], [], _ => True.intro
  | v :: vs, p :: ps, ⟨⟨t, h1, h2⟩, h⟩ => ⟨⟨t, h1, e _ _ _ h2⟩, Prs.mono e h⟩
  | [], _ :: _, h => h.elim
  | _ :: _, [], h => h.elim
theorem Prs.same {H H' : Hp} (e : Same H H') {vs : List V} {ps : List Pr} (h : Prs H vs ps) : Prs H' vs ps := h.mono fun t a b z => e _ _ z
theorem Prs.mut {H : Hp} {p : Addr} {xs : List V} {o : HO} (hp : H p = some (.lst xs)) {vs : List V} {ps : List Pr} (h : Prs H vs ps) : Prs (upd H p o) vs ps := h.mono fun t a b z => by
  rw [upd_ne (ne_of z hp (fun q => by cases q))]; exact z
theorem Prs.len {H : Hp} : ∀ {vs : List V} {ps : List Pr}, Prs H vs ps → vs.length = ps.length
  | [], [], _ => rfl
  | _ :: _, _ :: _, ⟨_, h⟩ => by rw [List.length_cons, List.length_cons, Prs.len h]
  | [], _ :: _, h => h.elim
  | _ :: _, [], h => h.elim
theorem Prs.app {H : Hp} : ∀ {vs ws : List V} {ps qs : List Pr}, Prs H vs ps → Prs H ws qs → Prs H (vs ++ ws) (ps ++ qs)
  | [], _, [], _, _, k => k
  | _ :: _, _, _ :: _, _, ⟨a, h⟩, k => ⟨a, Prs.app h k⟩
  | [], _, _ :: _, _, h, _ => h.elim
  | _ :: _, _, [], _, h, _ => h.elim
theorem Prs.get {H : Hp} : ∀ {vs : List V} {ps : List Pr} {i : Nat}, Prs H vs ps → (h : i < ps.length) → ∃ t, vs[i]? = some (.ref t) ∧ H t = some (.tup [nV ps[i].1, nV ps[i].2])
  | _ :: _, _ :: _, 0, ⟨⟨t, h1, h2⟩, _⟩, _ => ⟨t, by rw [h1]; rfl, h2⟩
  | _ :: vs, _ :: ps, i + 1, ⟨_, h⟩, hi => by
    obtain ⟨t, e, k⟩ := Prs.get (i := i) h (by simpa using hi)
    exact ⟨t, by simpa using e, k⟩
  | [], [], _, _, h => absurd h (by simp)
  | [], _ :: _, _, h, _ => h.elim
  | _ :: _, [], _, h, _ => h.elim
def PLst (H : Hp) (a : Addr) (ps : List Pr) : Prop := ∃ vs, H a = some (.lst vs) ∧ Prs H vs ps
theorem PLst.same {H H' : Hp} {a : Addr} {ps : List Pr} (e : Same H H') (h : PLst H a ps) : PLst H' a ps := by
  obtain ⟨vs, h1, h2⟩ := h
  exact ⟨vs, e _ _ h1, h2.same e⟩
/-- a new pair behind the list's end -/
theorem PLst.push {H H1 : Hp} {L T : Addr} {ps : List Pr} {a b : Nat} (h : PLst H L ps) (e : Same H H1) (nT : H1 T = none) :
    ∃ vs, (upd H1 T (.tup [nV a, nV b])) L = some (.lst vs) ∧ vs.length = ps.length ∧ PLst (upd (upd H1 T (.tup [nV a, nV b])) L (.lst (vs ++ [.ref T]))) L (ps ++ [(a, b)]) := by
  obtain ⟨vs, h1, h2⟩ := h
  have s1 : Same H1 (upd H1 T (.tup [nV a, nV b])) := same_upd nT
  have hL : (upd H1 T (.tup [nV a, nV b])) L = some (.lst vs) := s1 _ _ (e _ _ h1)
  refine ⟨vs, hL, h2.len, _, upd_same, ?_⟩
  refine Prs.app (Prs.mut hL (h2.same (e.trans s1))) ⟨⟨T, rfl, ?_⟩, True.intro⟩
  rw [upd_ne (ne_of (upd_same (H := H1) (a := T)) hL (fun q => by cases q)), upd_same]
/-- a pair that stands, behind the list's end -/
theorem PLst.push' {H : Hp} {L T : Addr} {ps : List Pr} {a b : Nat} (h : PLst H L ps) (hT : H T = some (.tup [nV a, nV b])) :
    ∃ vs, H L = some (.lst vs) ∧ vs.length = ps.length ∧ PLst (upd H L (.lst (vs ++ [.ref T]))) L (ps ++ [(a, b)]) := by
  obtain ⟨vs, h1, h2⟩ := h
  refine ⟨vs, h1, h2.len, _, upd_same, ?_⟩
  refine Prs.app (Prs.mut h1 h2) ⟨⟨T, rfl, ?_⟩, True.intro⟩
  rw [upd_ne (ne_of hT h1 (fun q => by cases q))]; exact hT

/-! ## edges by which all places are together -/
def Spans (n : Nat) (ps : List Pr) : Prop := ∀ f : Nat → Bool, (∀ e ∈ ps, f e.1 = f e.2) → ∀ i, i < n → f i = f 0
def Edg (n : Nat) (ps : List Pr) : Prop := ∀ e ∈ ps, e.1 ≠ e.2 ∧ e.1 < n ∧ e.2 < n
def Tree (ps : List Pr) : Prop := ∀ (j : Nat) (h : j < ps.length), ps[j].2 = j + 1 ∧ ps[j].1 ≤ j
theorem Tree.nil : Tree [] := fun j h => absurd h (by simp)
theorem Tree.app {ps : List Pr} {a b : Nat} (h : Tree ps) (hb : b = ps.length + 1) (ha : a ≤ ps.length) : Tree (ps ++ [(a, b)]) := fun j hj => by
  by_cases e : j < ps.length
  · rw [List.getElem_append_left e]; exact h j e
  · have ej : j = ps.length := by rw [List.length_append] at hj; simp at hj; omega
    subst ej
    rw [List.getElem_append_right (Nat.le_refl _)]
    simp
    exact ⟨hb, ha⟩
theorem Tree.spans {ps : List Pr} (h : Tree ps) : Spans (ps.length + 1) ps := fun f hf i => by
  induction i using Nat.strongRecOn with
  | _ i ih =>
    intro hi
    cases i with
    | zero => rfl
    | succ j =>
      have hj : j < ps.length := by omega
      obtain ⟨h2, h1⟩ := h j hj
      have e := hf _ (List.getElem_mem hj)
      rw [h2] at e
      rw [← e]
      exact ih _ (by omega) (by omega)
theorem Tree.edg {ps : List Pr} (h : Tree ps) : Edg (ps.length + 1) ps := fun e he => by
  obtain ⟨j, hj, rfl⟩ := List.getElem_of_mem he
  obtain ⟨h2, h1⟩ := h j hj
  omega
theorem Spans.app {n : Nat} {ps qs : List Pr} (h : Spans n ps) : Spans n (ps ++ qs) := fun f hf => h f fun e he => hf e (List.mem_append_left _ he)
theorem Edg.app {n : Nat} {ps qs : List Pr} (h : Edg n ps) (k : Edg n qs) : Edg n (ps ++ qs) := fun e he => (List.mem_append.mp he).elim (h e) (k e)
end G3

set_option Elab.async false
set_option linter.all false
set_option maxRecDepth 100000
set_option maxHeartbeats 2000000
namespace G3
open PySem PySem.Spec PyProof.Rows L2
def allPairs (n : Nat) : List Pr := (List.range n).flatMap fun v => (List.range v).map fun u => (u, v)
theorem allPairs_succ (n : Nat) : allPairs (n + 1) = allPairs n ++ (List.range n).map fun u => (u, n) := by
  unfold allPairs
  rw [List.range_succ, List.flatMap_append]
  simp
theorem mem_allPairs {n : Nat} {e : Pr} : e ∈ allPairs n ↔ e.1 < e.2 ∧ e.2 < n := by
  unfold allPairs
  rw [List.mem_flatMap]
  constructor
  · rintro ⟨v, hv, h⟩
    obtain ⟨u, hu, rfl⟩ := List.mem_map.mp h
    exact ⟨List.mem_range.mp hu, List.mem_range.mp hv⟩
  · rintro ⟨h1, h2⟩
    exact ⟨e.2, List.mem_range.mpr h2, List.mem_map.mpr ⟨e.1, List.mem_range.mpr h1, rfl⟩⟩
theorem allPairs_len2 (n : Nat) : 2 * (allPairs n).length = n * (n - 1) := by
  induction n with
  | zero => rfl
  | succ n ih =>
    rw [allPairs_succ, List.length_append, List.length_map, List.length_range, Nat.mul_add, ih]
    cases n with
    | zero => rfl
    | succ m =>
      show (m + 1) * m + 2 * (m + 1) = (m + 1 + 1) * (m + 1)
      rw [Nat.add_mul (m + 1) 1, Nat.mul_add (m + 1) m 1]
      omega
theorem allPairs_le (n : Nat) : (allPairs n).length ≤ n * n := by
  have := allPairs_len2 n
  have h : n * (n - 1) ≤ n * n := Nat.mul_le_mul_left _ (Nat.sub_le _ _)
  omega
section
variable {P : Program} {w : World} {K : PySem.W.Frag} {mg : Str → Option Value} {base : Heap}
abbrev n_law_all_pairs : List Str := ["n", "found", "v", "u"]
abbrev p_law_all_pairs : List Str := ["n"]
theorem sc_law_all_pairs : FnScope n_law_all_pairs p_law_all_pairs (defScope s_law_all_pairs) := ⟨rfl, rfl, rfl, by decide +kernel, rfl, by decide +kernel, by decide +kernel⟩
def spAllPairs : Sp := fun vs H Q _ => ∃ n : Nat, vs = [nV n] ∧ n ≤ 64 ∧ ∀ (H' : Hp) (p : Addr), Same H H' → H p = none → PLst H' p (allPairs n) → Q (.ref p) H'
theorem ok_all_pairs (D : DefAt K mg "_law_all_pairs" "_law_all_pairs" s_law_all_pairs) (B : Bt mg) : Has P w K mg base CX0 1 "_law_all_pairs" p_law_all_pairs spAllPairs := by
  refine has_of D sc_law_all_pairs (fun _ _ _ _ _ _ us hl => match us, hl with | [_], _ => rfl) (fun vs H Q E h => ?_) (fun f cdv A outer s H vs Q E hr h => ?_)
  · obtain ⟨n, rfl, _⟩ := h
    rfl
  · obtain ⟨n, rfl, hn, q⟩ := h
    refine ⟨_, (pss_cons (ps_set (i := 1) sc_law_all_pairs.nd rfl (.inl rfl) (pe_lst pa_nil))
  (pss_cons (ps_for PassesOwn.never rfl (pi_range1 rfl B.range (pa_cons (pv 0) pa_nil)) (pg_name (i := 2) sc_law_all_pairs.nd rfl (.inr rfl)) (pss_one (ps_set (i := 1) sc_law_all_pairs.nd rfl (.inl rfl) (pe_op op_cat (pv 1) (pe_lc (own := [("u", 3)]) (g := gName 3) (tt := tYes) rfl sc_law_all_pairs.nd (pi_range1 rfl B.range (pa_cons (pv 2) pa_nil)) (blkOk_by (N := n_law_all_pairs) (sc := defScope s_law_all_pairs) (by decide +kernel)) (fun _ _ _ _ _ => (pg_name (i := 3) sc_law_all_pairs.nd rfl (.inl rfl))) (fun _ _ _ _ _ => pts_nil) (fun _ _ _ _ _ => (pe_tup (pa_cons (pv 3) (pa_cons (pv 2) pa_nil)))))))))
  (pss_one (ps_ret (pv 1))))), ?_⟩
    refine ⟨Nat.zero_le _, fun p np => ?_⟩
    refine ⟨_, rfl, _, rfl, by omega, by omega, for_range (lo := 0) (n := n) (fun i σ H' => ∃ (p : Addr) (y : Option V), σ = [some (nV n), some (.ref p), y, none] ∧ Same H H' ∧ H p = none ∧ PLst H' p (allPairs i)) ?_ ?_ ?_⟩
    · exact ⟨p, none, rfl, same_upd np, np, [], upd_same, True.intro⟩
    · rintro i σ H' hi ⟨p, y, rfl, sm, np, pl⟩
      have ei : V.int (0 + (i : Int)) = nV i := by rw [Int.zero_add]
      rw [ei]
      refine ⟨_, rfl, _, rfl, _, rfl, by omega, by omega, fun L nL => ?_⟩
      refine lc_range (lo := 0) (n := i) (fun j H2 => Same H' H2 ∧ PLst H2 L ((List.range j).map fun u => (u, i))) ⟨same_upd nL, [], upd_same, True.intro⟩ ?_ ?_
      · rintro j H2 hj ⟨sm2, pl2⟩
        have ej : V.int (0 + (j : Int)) = nV j := by rw [Int.zero_add]
        rw [ej]
        refine ⟨rfl, yes_ ?_⟩
        refine ⟨_, rfl, _, rfl, by show 2 ≤ sizeLine; decide, fun T nT => ?_⟩
        obtain ⟨vs, h1, h2, h3⟩ := pl2.push (a := j) (b := i) (Same.refl H2) nT
        refine ⟨vs, h1, size_lt (by rw [h2, List.length_map, List.length_range]; omega), same_mut (sm2.trans (same_upd nT)) nL, ?_⟩
        rw [List.range_succ, List.map_append]
        exact h3
      · rintro H2 ⟨sm2, vs2, h1, h2⟩
        obtain ⟨vs, g1, g2⟩ := pl.same sm2
        have l1 := g2.len
        have l2 := h2.len
        have := allPairs_le i
        have h64 : i * i ≤ 64 * 64 := Nat.mul_le_mul (by omega) (by omega)
        rw [List.length_map, List.length_range] at l2
        refine ⟨p, L, _, _, rfl, rfl, g1, h1, size_le (by omega), fun p2 np2 => ?_⟩
        refine ⟨p2, _, rfl, (sm.trans sm2).trans (same_upd np2), (sm.trans sm2).free np2, _, upd_same, ?_⟩
        rw [allPairs_succ]
        exact Prs.same (same_upd np2) (Prs.app g2 h2)
    · rintro σ H' ⟨p, y, rfl, sm, np, pl⟩
      exact ⟨_, rfl, q _ _ sm np pl⟩
end
end G3

set_option Elab.async false
set_option linter.all false
set_option maxRecDepth 100000
set_option maxHeartbeats 2000000
namespace G3
open PySem PySem.Spec PyProof.Rows L2
/-! ## kinds of graphs -/
theorem allPairs_spans {n : Nat} : Spans n (allPairs n) := fun f hf i hi => by
  by_cases h : i = 0
  · rw [h]
  · exact (hf (0, i) (mem_allPairs.mpr ⟨Nat.pos_of_ne_zero h, hi⟩)).symm
theorem allPairs_edg {n : Nat} : Edg n (allPairs n) := fun e he => by
  obtain ⟨h1, h2⟩ := mem_allPairs.mp he
  omega
def bip (n h : Nat) : List Pr := (List.range (h * (n - h))).map fun k => (k / (n - h), h + k % (n - h))
theorem bip_mem {n h u v : Nat} (hn : h < n) (hu : u < h) (h1 : h ≤ v) (h2 : v < n) : (u, v) ∈ bip n h := by
  refine List.mem_map.mpr ⟨u * (n - h) + (v - h), List.mem_range.mpr ?_, ?_⟩
  · have : (u + 1) * (n - h) ≤ h * (n - h) := Nat.mul_le_mul_right _ hu
    rw [Nat.add_mul, Nat.one_mul] at this
    omega
  · have p : 0 < n - h := by omega
    have q : v - h < n - h := by omega
    rw [Nat.mul_comm u, Nat.mul_add_div p, Nat.div_eq_of_lt q, Nat.mul_add_mod, Nat.mod_eq_of_lt q]
    simp
    omega
theorem bip_edg {n h : Nat} (hn : h < n) : Edg n (bip n h) := fun e he => by
  obtain ⟨k, hk, rfl⟩ := List.mem_map.mp he
  have hk := List.mem_range.mp hk
  have p : 0 < n - h := by omega
  have h1 : k / (n - h) < h := (Nat.div_lt_iff_lt_mul p).mpr hk
  have h2 : k % (n - h) < n - h := Nat.mod_lt _ p
  show k / (n - h) ≠ h + k % (n - h) ∧ k / (n - h) < n ∧ h + k % (n - h) < n
  omega
theorem bip_spans {n h : Nat} (h0 : 0 < h) (hn : h < n) : Spans n (bip n h) := fun f hf i hi => by
  have a : ∀ v, h ≤ v → v < n → f v = f 0 := fun v h1 h2 => (hf _ (bip_mem hn h0 h1 h2)).symm
  by_cases c : i < h
  · rw [hf _ (bip_mem hn c (Nat.le_refl h) hn)]
    exact a h (Nat.le_refl h) hn
  · exact a i (by omega) hi
theorem bip_len {n h : Nat} : (bip n h).length = h * (n - h) := by
  unfold bip
  rw [List.length_map, List.length_range]
theorem bip_get {n h i : Nat} (hi : i < h * (n - h)) : (bip n h)[i]? = some (i / (n - h), h + i % (n - h)) := by
  unfold bip
  rw [List.getElem?_map, List.getElem?_range hi]; rfl
/-- the pairs of two halves -/
theorem nodup_len {α : Type} [DecidableEq α] : ∀ (l k : List α), l.Nodup → (∀ x ∈ l, x ∈ k) → l.length ≤ k.length
  | [], _, _, _ => Nat.zero_le _
  | a :: t, k, hn, hs => by
    obtain ⟨h1, h2⟩ := List.nodup_cons.mp hn
    have ha := hs a (List.mem_cons_self ..)
    have h3 := nodup_len t (k.filter fun x => decide (x ≠ a)) h2 fun x hx => List.mem_filter.mpr ⟨hs x (List.mem_cons_of_mem _ hx), decide_eq_true (fun z => h1 (by rw [← z]; exact hx))⟩
    have h4 : (k.filter fun x => decide (x ≠ a)).length < k.length := List.length_filter_lt_length_iff_exists.mpr ⟨a, ha, by simp⟩
    rw [List.length_cons]; omega
theorem allPairs_nodup (n : Nat) : (allPairs n).Nodup := by
  induction n with
  | zero => exact List.nodup_nil
  | succ n ih =>
    rw [allPairs_succ]
    refine List.nodup_append.mpr ⟨ih, ?_, fun x hx y hy e => ?_⟩
    · refine List.pairwise_map.mpr (List.nodup_range.imp fun h e => h (by cases e; rfl))
    · obtain ⟨u, _, rfl⟩ := List.mem_map.mp hy
      have := mem_allPairs.mp hx
      rw [e] at this
      exact absurd this.2 (Nat.lt_irrefl n)
theorem half_mem {n h u v : Nat} : (u, v) ∈ (allPairs n).filter (fun e => decide (e.1 < h) && decide (h ≤ e.2)) ↔ u < h ∧ h ≤ v ∧ v < n := by
  rw [List.mem_filter, mem_allPairs, Bool.and_eq_true, decide_eq_true_eq, decide_eq_true_eq]
  omega
theorem half_len (n h : Nat) (hn : h < n) : ((allPairs n).filter (fun e => decide (e.1 < h) && decide (h ≤ e.2))).length ≤ h * (n - h) := by
  rw [← bip_len]
  refine nodup_len _ _ ((allPairs_nodup n).filter _) fun x hx => ?_
  obtain ⟨u, v⟩ := x
  obtain ⟨h1, h2, h3⟩ := half_mem.mp hx
  exact bip_mem hn h1 h2 h3
theorem half_edg {n h : Nat} : Edg n ((allPairs n).filter (fun e => decide (e.1 < h) && decide (h ≤ e.2))) := fun e he => by
  have := mem_allPairs.mp (List.mem_filter.mp he).1
  omega
theorem half_spans {n h : Nat} (h0 : 0 < h) (hn : h < n) : Spans n ((allPairs n).filter (fun e => decide (e.1 < h) && decide (h ≤ e.2))) := fun f hf i hi => by
  have a : ∀ v, h ≤ v → v < n → f v = f 0 := fun v h1 h2 => (hf _ (half_mem.mpr ⟨h0, h1, h2⟩)).symm
  by_cases c : i < h
  · rw [hf _ (half_mem.mpr ⟨c, Nat.le_refl h, hn⟩)]
    exact a h (Nat.le_refl h) hn
  · exact a i (by omega) hi
theorem half_pos {n h : Nat} (h0 : 0 < h) (hn : h < n) : 1 ≤ ((allPairs n).filter (fun e => decide (e.1 < h) && decide (h ≤ e.2))).length := List.length_pos_of_mem (half_mem.mpr ⟨h0, Nat.le_refl h, hn⟩)
/-- an edge (min, max) after places are called otherwise -/
def relabel (o : List Nat) (e : Pr) : Pr := (min (o.getD e.1 0) (o.getD e.2 0), max (o.getD e.1 0) (o.getD e.2 0))
def Good (n : Nat) (es : List Pr) : Prop := (∀ e ∈ es, e.1 < e.2 ∧ e.2 < n) ∧ Spans n es
theorem relabel_good {n : Nat} {o : List Nat} {ps : List Pr} (hn : 0 < n) (ho : o.Perm (List.range n)) (h1 : Edg n ps) (h2 : Spans n ps) : Good n (ps.map (relabel o)) := by
  have hl : o.length = n := by rw [ho.length_eq, List.length_range]
  have hnd : o.Nodup := ho.nodup_iff.mpr List.nodup_range
  have lt : ∀ i, i < n → o.getD i 0 < n := fun i hi => by
    have hi' : i < o.length := by omega
    rw [List.getD_eq_getElem?_getD, List.getElem?_eq_getElem hi']
    exact List.mem_range.mp (ho.mem_iff.mp (List.getElem_mem hi'))
  have inj : ∀ i j, i < n → j < n → o.getD i 0 = o.getD j 0 → i = j := fun i j hi hj e => by
    have hi' : i < o.length := by omega
    have hj' : j < o.length := by omega
    rw [List.getD_eq_getElem?_getD, List.getElem?_eq_getElem hi', List.getD_eq_getElem?_getD, List.getElem?_eq_getElem hj'] at e
    exact (List.getElem_inj hnd).mp e
  constructor
  · intro e he
    obtain ⟨p, hp, rfl⟩ := List.mem_map.mp he
    obtain ⟨k1, k2, k3⟩ := h1 p hp
    have := lt _ k2
    have := lt _ k3
    have : o.getD p.1 0 ≠ o.getD p.2 0 := fun e => k1 (inj _ _ k2 k3 e)
    show min _ _ < max _ _ ∧ max _ _ < n
    omega
  · intro f hf
    have key : ∀ i, i < n → f (o.getD i 0) = f (o.getD 0 0) := h2 (fun i => f (o.getD i 0)) fun p hp => by
      have e := hf _ (List.mem_map.mpr ⟨p, hp, rfl⟩)
      have e : f (min (o.getD p.1 0) (o.getD p.2 0)) = f (max (o.getD p.1 0) (o.getD p.2 0)) := e
      show f (o.getD p.1 0) = f (o.getD p.2 0)
      by_cases c : o.getD p.1 0 ≤ o.getD p.2 0
      · rwa [Nat.min_eq_left c, Nat.max_eq_right c] at e
      · have c : o.getD p.2 0 ≤ o.getD p.1 0 := by omega
        rw [Nat.min_eq_right c, Nat.max_eq_left c] at e
        exact e.symm
    have sur : ∀ v, v < n → ∃ i, i < n ∧ o.getD i 0 = v := fun v hv => by
      have hm : v ∈ o := ho.mem_iff.mpr (List.mem_range.mpr hv)
      obtain ⟨i, hi, e⟩ := List.getElem_of_mem hm
      refine ⟨i, by omega, ?_⟩
      rw [List.getD_eq_getElem?_getD, List.getElem?_eq_getElem hi]
      exact e
    intro v hv
    obtain ⟨i, hi, rfl⟩ := sur v hv
    obtain ⟨j, hj, e0⟩ := sur 0 hn
    have kj := key j hj
    rw [e0] at kj
    exact (key i hi).trans kj.symm
theorem Good.perm {n : Nat} {es fs : List Pr} (h : Good n es) (hp : fs.Perm es) : Good n fs :=
  ⟨fun e he => h.1 e (hp.mem_iff.mp he), fun f hf => h.2 f fun e he => hf e (hp.mem_iff.mpr he)⟩
/-- a row read in the order of a permutation -/
def pick (es : List Pr) (o : List Nat) : List Pr := o.map fun k => es.getD k (0, 0)
theorem pick_perm {es : List Pr} {o : List Nat} (ho : o.Perm (List.range es.length)) : (pick es o).Perm es := by
  refine (ho.map _).trans ?_
  have e : ((List.range es.length).map fun k => es.getD k (0, 0)) = es := by
    apply List.ext_getElem
    · rw [List.length_map, List.length_range]
    · intro i h1 h2
      rw [List.getElem_map, List.getElem_range, List.getD_eq_getElem?_getD, List.getElem?_eq_getElem h2]
      rfl
  rw [e]

def TreeAt (H0 : Hp) (L : Addr) (i : Nat) (H2 : Hp) : Prop := Same H0 H2 ∧ ∃ ps, PLst H2 L ps ∧ Tree ps ∧ ps.length = i
theorem treeAt_nil {H0 : Hp} {L : Addr} (nL : H0 L = none) : TreeAt H0 L 0 (upd H0 L (.lst [])) := ⟨same_upd nL, [], ⟨[], upd_same, True.intro⟩, Tree.nil, rfl⟩
theorem tree_push {H0 H2 : Hp} {L T : Addr} {i x : Nat} {v : V} (nL : H0 L = none) (h : TreeAt H0 L i H2) (nT : H2 T = none) (hv : v = nV x) (hx : x ≤ i) (hi : i < 1000) :
    ∃ acc, (upd H2 T (.tup [v, nV (i + 1)])) L = some (.lst acc) ∧ acc.length < sizeLine ∧ TreeAt H0 L (i + 1) (upd (upd H2 T (.tup [v, nV (i + 1)])) L (.lst (acc ++ [.ref T]))) := by
  subst hv
  obtain ⟨sm, ps, pl, tr, el⟩ := h
  obtain ⟨vs, h1, h2, h3⟩ := pl.push (a := x) (b := i + 1) (Same.refl H2) nT
  refine ⟨vs, h1, size_lt (by omega), same_mut (sm.trans (same_upd nT)) nL, _, h3, tr.app (by omega) (by omega), by rw [List.length_append, el]; rfl⟩
theorem PLst.pushV {H H1 : Hp} {L T : Addr} {ps : List Pr} {a b : Nat} {v u : V} (h : PLst H L ps) (e : Same H H1) (nT : H1 T = none) (hv : v = nV a) (hu : u = nV b) :
    ∃ vs, (upd H1 T (.tup [v, u])) L = some (.lst vs) ∧ vs.length = ps.length ∧ PLst (upd (upd H1 T (.tup [v, u])) L (.lst (vs ++ [.ref T]))) L (ps ++ [(a, b)]) := by
  subst hv; subst hu
  exact h.push e nT
theorem mod_other {n x y : Nat} (hx : x < n) (hy : y + 1 < n) : (x + 1 + y) % n ≠ x ∧ (x + 1 + y) % n < n := by
  refine ⟨?_, Nat.mod_lt _ (by omega)⟩
  by_cases h : x + 1 + y < n
  · rw [Nat.mod_eq_of_lt h]; omega
  · rw [Nat.mod_eq_sub_mod (by omega), Nat.mod_eq_of_lt (by omega)]; omega
theorem TreeAt.same {H0 H2 H3 : Hp} {L : Addr} {i : Nat} (t : TreeAt H0 L i H2) (e : Same H2 H3) : TreeAt H0 L i H3 := by
  obtain ⟨sm, ps, pl, r⟩ := t
  exact ⟨sm.trans e, ps, pl.same e, r⟩
theorem PLst.size {H : Hp} {a : Addr} {ps : List Pr} (h : PLst H a ps) : ∃ vs, H a = some (.lst vs) ∧ vs.length = ps.length := by
  obtain ⟨vs, h1, h2⟩ := h
  exact ⟨vs, h1, h2.len⟩
section
variable {P : Program} {w : World} {K : PySem.W.Frag} {mg : Str → Option Value} {base : Heap}
abbrev n_law_graph : List Str := ["pool", "most", "genus", "n", "kind", "more", "pairs", "first", "turn", "one", "other", "order", "edges", "k", "u", "v", "pair"]
abbrev p_law_graph : List Str := ["pool", "most", "genus"]
theorem sc_law_graph : FnScope n_law_graph p_law_graph (defScope s_law_graph) := ⟨rfl, rfl, rfl, by decide +kernel, rfl, by decide +kernel, by decide +kernel⟩
/-- a graph drawn: 1 to most places, edges by which all are together, of a genus of at most a number -/
def spGraph : Sp := fun vs H Q _ => ∃ (a : Addr) (most genus : Int), vs = [.ref a, .int most, .int genus] ∧ PoolAt H a ∧ 1 ≤ most ∧ most ≤ 64 ∧ 0 ≤ genus ∧ genus ≤ 337 ∧
  ∀ (H' : Hp) (t l : Addr) (n : Nat) (es : List Pr), Same H H' → H' t = some (.tup [nV n, .ref l]) → H l = none → PLst H' l es → 1 ≤ n → (n : Int) ≤ most → Good n es → es.length + 1 ≤ n + genus → Q (.ref t) H'
/-- what stands behind the choice of a kind -/
def MidG (H : Hp) (a : Addr) (most genus kind : Int) (n : Nat) (σ : L2.St) (H' : Hp) : Prop := ∃ (pp : Addr) (mr : Int) (ps : List Pr) (yh : Option V),
  σ = [some (.ref a), some (.int most), some (.int genus), some (nV n), some (.int kind), some (.int mr), some (.ref pp), none, none, none, none, none, none, none, none, none, none] ∧
  Same H H' ∧ H pp = none ∧ PLst H' pp ps ∧ 0 ≤ mr ∧ (ps.length : Int) + mr + 1 ≤ n + genus ∧ 1 ≤ ps.length ∧ Edg n ps ∧ Spans n ps
theorem midG_tree {H0 H H1 : Hp} {L a : Addr} {n : Nat} {most genus kind mr : Int} (t : TreeAt H L (n - 1) H1) (sm0 : Same H0 H) (nL : H L = none) (hn : 2 ≤ n) (x0 : 0 ≤ mr) (x1 : mr ≤ genus) :
    MidG H0 a most genus kind n [some (.ref a), some (.int most), some (.int genus), some (nV n), some (.int kind), some (.int mr), some (.ref L), none, none, none, none, none, none, none, none, none, none] H1 := by
  obtain ⟨sm, ps, pl, tr, el⟩ := t
  have e : ps.length + 1 = n := by omega
  exact ⟨L, mr, ps, none, rfl, sm0.trans sm, sm0.free nL, pl, x0, by omega, by omega, e ▸ tr.edg, e ▸ tr.spans⟩
theorem ok_graph (D : DefAt K mg "_law_graph" "_law_graph" s_law_graph) (B : Bt mg) (h_law_take : Has P w K mg base CX0 2 "_law_take" p_law_take spTake) (h_law_pick : Has P w K mg base CX0 3 "_law_pick" p_law_pick (spPick K))
    (h_law_order : Has P w K mg base CX0 3 "_law_order" p_law_order spOrder) (h_law_all_pairs : Has P w K mg base CX0 1 "_law_all_pairs" p_law_all_pairs spAllPairs) : Has P w K mg base CX0 4 "_law_graph" p_law_graph spGraph := by
  refine has_of D sc_law_graph (fun _ _ _ _ _ _ us hl => match us, hl with | [_, _, _], _ => rfl) (fun vs H Q E h => ?_) (fun f cdv A outer s H vs Q E hr h => ?_)
  · obtain ⟨a, most, genus, rfl, _⟩ := h
    rfl
  · obtain ⟨a, most, genus, rfl, hp, m1, m2, g1, g2, q⟩ := h
    refine ⟨_, (Evl.pss_cut (ps_set (i := 3) sc_law_graph.nd rfl (.inr rfl) (pe_op op_add pe_int (pe_h h_law_take hr pass0 (pa_cons (pv 0) (pa_cons (pv 1) pa_nil)))))
  (pss_cons (ps_set (i := 4) sc_law_graph.nd rfl (.inl rfl) (pe_h h_law_take hr pass0 (pa_cons (pv 0) (pa_cons pe_int pa_nil))))
  (pss_cons (ps_set (i := 5) sc_law_graph.nd rfl (.inl rfl) (pe_h h_law_take hr pass0 (pa_cons (pv 0) (pa_cons (pe_op op_add (pv 2) pe_int) pa_nil))))
  (pss_cons (ps_if (pt_cmpR op_eq (pv 3) pe_int (nomark _)) (pss_one (ps_ret (pe_tup (pa_cons pe_int (pa_cons (pe_lst pa_nil) pa_nil))))) pss_nil)
  (pss_cons (ps_setLc (i := 6) (own := [("k", 13)]) (g := gName 13) (tt := tYes) rfl sc_law_graph.nd rfl rfl (sw_true rfl rfl rfl (by decide +kernel)) (pi_range2 rfl B.range (pa_cons pe_int (pa_cons (pv 3) pa_nil))) (blkOk_by (N := n_law_graph) (sc := defScope s_law_graph) (by decide +kernel)) (fun _ _ _ _ _ => (pg_name (i := 13) sc_law_graph.nd rfl (.inl rfl))) (fun _ _ _ _ _ => pts_nil) (fun _ _ _ _ _ => (pe_tup (pa_cons (pe_h h_law_take hr pass0 (pa_cons (pv 0) (pa_cons (pv 13) pa_nil))) (pa_cons (pv 13) pa_nil)))))
  (Evl.pss_cut (ps_if (pt_cmpR op_eq (pv 4) pe_int (nomark _)) (pss_one (ps_setLc (i := 6) (own := [("k", 13)]) (g := gName 13) (tt := tYes) rfl sc_law_graph.nd rfl rfl (sw_true rfl rfl rfl (by decide +kernel)) (pi_range2 rfl B.range (pa_cons pe_int (pa_cons (pv 3) pa_nil))) (blkOk_by (N := n_law_graph) (sc := defScope s_law_graph) (by decide +kernel)) (fun _ _ _ _ _ => (pg_name (i := 13) sc_law_graph.nd rfl (.inl rfl))) (fun _ _ _ _ _ => pts_nil) (fun _ _ _ _ _ => (pe_tup (pa_cons (pe_op op_sub (pv 13) pe_int) (pa_cons (pv 13) pa_nil)))))) (pss_one (ps_if (pt_cmpR op_eq (pv 4) pe_int (nomark _)) (pss_one (ps_setLc (i := 6) (own := [("k", 13)]) (g := gName 13) (tt := tYes) rfl sc_law_graph.nd rfl rfl (sw_true rfl rfl rfl (by decide +kernel)) (pi_range2 rfl B.range (pa_cons pe_int (pa_cons (pv 3) pa_nil))) (blkOk_by (N := n_law_graph) (sc := defScope s_law_graph) (by decide +kernel)) (fun _ _ _ _ _ => (pg_name (i := 13) sc_law_graph.nd rfl (.inl rfl))) (fun _ _ _ _ _ => pts_nil) (fun _ _ _ _ _ => (pe_tup (pa_cons pe_int (pa_cons (pv 13) pa_nil)))))) (pss_one (ps_if (PW.pt (pw_and (pt_cmpR op_eq (pv 4) pe_int (nomark _)) (pw_and1 (pt_cmpR op_ge (pv 2) pe_int (nomark _))))) (pss_cons (ps_set (i := 6) sc_law_graph.nd rfl (.inl rfl) (pe_op op_cat (pe_lc (own := [("k", 13)]) (g := gName 13) (tt := tYes) rfl sc_law_graph.nd (pi_range2 rfl B.range (pa_cons pe_int (pa_cons (pv 3) pa_nil))) (blkOk_by (N := n_law_graph) (sc := defScope s_law_graph) (by decide +kernel)) (fun _ _ _ _ _ => (pg_name (i := 13) sc_law_graph.nd rfl (.inl rfl))) (fun _ _ _ _ _ => pts_nil) (fun _ _ _ _ _ => (pe_tup (pa_cons (pe_op op_sub (pv 13) pe_int) (pa_cons (pv 13) pa_nil))))) (pe_lst (pa_cons (pe_tup (pa_cons pe_int (pa_cons (pe_op op_sub (pv 3) pe_int) pa_nil))) pa_nil))))
  (pss_one (ps_set (i := 5) sc_law_graph.nd rfl (.inl rfl) (pe_callB (call_min2 rfl) rfl B.min (by decide +kernel) (pa_cons (pv 5) (pa_cons (pe_op op_sub (pv 2) pe_int) pa_nil)))))) (pss_one (ps_if (PW.pt (pw_and (pt_cmpR op_eq (pv 4) pe_int (nomark _)) (pw_and1 (pt_cmpR op_le (pe_callTy call_int1 rfl B.int (by decide +kernel) (pa_cons (pe_op op_fdiv (pe_op op_mul (pe_op op_sub (pv 3) pe_int) (pe_op op_sub (pv 3) pe_int)) pe_int) pa_nil)) (pv 2) (nomark _))))) (pss_one (ps_par (i := 6) (j := 5) rfl sc_law_graph.nd rfl rfl (by decide) rfl rfl (pa_cons (pe_h h_law_all_pairs hr pass0 (pa_cons (pv 3) pa_nil)) (pa_cons pe_int pa_nil)) rfl)) (pss_one (ps_if (PW.pt (pw_and (pt_cmpR op_eq (pv 4) pe_int (nomark _)) (pw_and (pt_cmpR op_gt (pv 3) pe_int (nomark _)) (pw_and1 (pt_cmpR op_le (pe_op op_add (pe_op op_sub (pe_op op_mul (pe_callTy call_int1 rfl B.int (by decide +kernel) (pa_cons (pe_op op_fdiv (pv 3) pe_int) pa_nil)) (pe_op op_sub (pv 3) (pe_callTy call_int1 rfl B.int (by decide +kernel) (pa_cons (pe_op op_fdiv (pv 3) pe_int) pa_nil)))) (pv 3)) pe_int) (pv 2) (nomark _)))))) (pss_one (ps_par (i := 6) (j := 5) rfl sc_law_graph.nd rfl rfl (by decide) rfl rfl (pa_cons (pe_lc (own := [("pair", 16)]) (g := gName 16) (tt := _) rfl sc_law_graph.nd (piL (K := K) rfl (pe_h h_law_all_pairs hr pass0 (pa_cons (pv 3) pa_nil))) (blkOk_by (N := n_law_graph) (sc := defScope s_law_graph) (by decide +kernel)) (fun _ _ _ _ _ => (pg_name (i := 16) sc_law_graph.nd rfl (.inl rfl))) (fun _ _ _ _ _ => (pts_one (pt_chain op_lt op_le (pe_ix (ixT (K := K) rfl) (pv 16) pe_int (fun _ _ => rfl)) (pe_callTy call_int1 rfl B.int (by decide +kernel) (pa_cons (pe_op op_fdiv (pv 3) pe_int) pa_nil)) (pe_ix (ixT (K := K) rfl) (pv 16) pe_int (fun _ _ => rfl))))) (fun _ _ _ _ _ => (pv 16))) (pa_cons pe_int pa_nil)) rfl)) (pss_one (ps_if (pt_cmpR op_eq (pv 4) pe_int (nomark _)) (pss_one (ps_setLc (i := 6) (own := [("k", 13)]) (g := gName 13) (tt := tYes) rfl sc_law_graph.nd rfl rfl (sw_true rfl rfl rfl (by decide +kernel)) (pi_range2 rfl B.range (pa_cons pe_int (pa_cons (pv 3) pa_nil))) (blkOk_by (N := n_law_graph) (sc := defScope s_law_graph) (by decide +kernel)) (fun _ _ _ _ _ => (pg_name (i := 13) sc_law_graph.nd rfl (.inl rfl))) (fun _ _ _ _ _ => pts_nil) (fun _ _ _ _ _ => (pe_tup (pa_cons (pe_h h_law_pick hr pass0 (pa_cons (pv 0) (pa_cons (pe_lst (pa_cons pe_int (pa_cons (pe_op op_sub (pv 13) pe_int) pa_nil))) pa_nil))) (pa_cons (pv 13) pa_nil)))))) pss_nil)))))))))))
  (pss_cons (ps_set (i := 7) sc_law_graph.nd rfl (.inl rfl) (pe_ix (ixL (K := K) rfl) (pv 6) (pe_h h_law_take hr pass0 (pa_cons (pv 0) (pa_cons (pe_callB (lenK (K := K) rfl) rfl B.len PySem.boot_len (pa_cons (pv 6) pa_nil)) pa_nil))) (fun _ _ => rfl)))
  (Evl.pss_cut (ps_for PassesOwn.never rfl (pi_range1 rfl B.range (pa_cons (pv 5) pa_nil)) (pg_name (i := 8) sc_law_graph.nd rfl (.inl rfl)) (pss_cons (ps_set (i := 9) sc_law_graph.nd rfl (.inl rfl) (pe_h h_law_take hr pass0 (pa_cons (pv 0) (pa_cons (pv 3) pa_nil))))
  (pss_cons (ps_set (i := 10) sc_law_graph.nd rfl (.inl rfl) (pe_op op_mod (pe_callTy call_int1 rfl B.int (by decide +kernel) (pa_cons (pe_op op_add (pe_op op_add (pv 9) pe_int) (pe_h h_law_take hr pass0 (pa_cons (pv 0) (pa_cons (pe_op op_sub (pv 3) pe_int) pa_nil)))) pa_nil)) (pv 3)))
  (pss_one (ps_expr (pe_bm PySem.F.plainAttrs_list PySem.F.slot_list_append PySem.F.type_list_append mt_append (pv 6) (pa_cons (pe_ifExp (pt_cmpR op_eq (pe_h h_law_take hr pass0 (pa_cons (pv 0) (pa_cons pe_int pa_nil))) pe_int (nomark _)) (pv 7) (pe_tup (pa_cons (pv 9) (pa_cons (pv 10) pa_nil)))) pa_nil)))))))
  (pss_cons (ps_set (i := 11) sc_law_graph.nd rfl (.inr rfl) (pe_h h_law_order hr pass0 (pa_cons (pv 0) (pa_cons (pv 3) pa_nil))))
  (pss_cons (ps_set (i := 12) sc_law_graph.nd rfl (.inr rfl) (pe_lc (own := [("u", 14), ("v", 15)]) (g := _) (tt := tYes) rfl sc_law_graph.nd (piL (K := K) rfl (pv 6)) (blkOk_by (N := n_law_graph) (sc := defScope s_law_graph) (by decide +kernel)) (fun _ _ _ _ _ => (pgT (K := K) (n := 2) rfl rfl (pgs_cons (pg_name (i := 14) sc_law_graph.nd rfl (.inl rfl)) (pgs_cons (pg_name (i := 15) sc_law_graph.nd rfl (.inl rfl)) pgs_nil)))) (fun _ _ _ _ _ => pts_nil) (fun _ _ _ _ _ => (pe_tup (pa_cons (pe_callB (call_min2 rfl) rfl B.min (by decide +kernel) (pa_cons (pe_ix (ixT (K := K) rfl) (pv 11) (pv 14) (fun _ _ => rfl)) (pa_cons (pe_ix (ixT (K := K) rfl) (pv 11) (pv 15) (fun _ _ => rfl)) pa_nil))) (pa_cons (pe_callB (call_max2 rfl) rfl B.max (by decide +kernel) (pa_cons (pe_ix (ixT (K := K) rfl) (pv 11) (pv 14) (fun _ _ => rfl)) (pa_cons (pe_ix (ixT (K := K) rfl) (pv 11) (pv 15) (fun _ _ => rfl)) pa_nil))) pa_nil))))))
  (pss_one (ps_ret (pe_tup (pa_cons (pv 3) (pa_cons (pe_lc (own := [("k", 13)]) (g := gName 13) (tt := tYes) rfl sc_law_graph.nd (piT (K := K) rfl (pe_h h_law_order hr pass0 (pa_cons (pv 0) (pa_cons (pe_callB (lenK (K := K) rfl) rfl B.len PySem.boot_len (pa_cons (pv 12) pa_nil)) pa_nil)))) (blkOk_by (N := n_law_graph) (sc := defScope s_law_graph) (by decide +kernel)) (fun _ _ _ _ _ => (pg_name (i := 13) sc_law_graph.nd rfl (.inl rfl))) (fun _ _ _ _ _ => pts_nil) (fun _ _ _ _ _ => (pe_ix (ixL (K := K) rfl) (pv 12) (pv 13) (fun _ _ => rfl)))) pa_nil))))))))))))))), ?_⟩
    refine ⟨fun σ' H' => H' = H ∧ ∃ n : Nat, 1 ≤ n ∧ (n : Int) ≤ most ∧ σ' = [some (.ref a), some (.int most), some (.int genus), some (nV n), none, none, none, none, none, none, none, none, none, none, none, none, none], ?_, ?_⟩
    · refine ⟨_, rfl, _, rfl, a, _, rfl, hp, by omega, by omega, fun r r0 r1 => ⟨_, _, rfl, rfl, rfl, (1 + r).toNat, by omega, by omega, ?_⟩⟩
      have e : V.int (1 + r) = nV (1 + r).toNat := congrArg V.int (by omega)
      show [_, _, _, some (V.int (1 + r)), _, _, _, _, _, _, _, _, _, _, _, _, _] = _
      rw [e]
    rintro σ' H' ⟨rfl, n, n1, n2, rfl⟩
    refine ⟨_, rfl, a, _, rfl, hp, by decide, by decide, fun kind k0 k1 => ?_⟩
    refine ⟨_, rfl, _, rfl, _, _, rfl, rfl, a, _, rfl, hp, by omega, by omega, fun more x0 x1 => ?_⟩
    refine ⟨_, rfl, rfl, _, rfl, ifD (fun e => ?_) (fun e => ?_)⟩
    · have e : (n : Int) = 1 := V.int.inj e
      have e : n = 1 := by omega
      subst e
      refine ⟨Nat.zero_le _, fun l nl => ⟨by show 2 ≤ sizeLine; decide, fun t nt => ?_⟩⟩
      refine q _ t l 1 [] ((same_upd nl).trans (same_upd nt)) upd_same nl ⟨[], ?_, True.intro⟩ n1 n2 ⟨fun e he => (nomatch he), fun f _ i hi => ?_⟩ (by simp; omega)
      · have : l ≠ t := fun e => by rw [← e, upd_same] at nt; cases nt
        rw [upd_ne this, upd_same]
      · have : i = 0 := by omega
        rw [this]
    · have n3 : 2 ≤ n := by
        have : n ≠ 1 := fun h => e (by rw [h]; rfl)
        omega
      have ek : ∀ i : Nat, V.int (1 + (i : Int)) = nV (i + 1) := fun i => congrArg V.int (by omega)
      have eN : ((n : Int) - 1).toNat = n - 1 := by omega
      -- pairs = ..
      refine ⟨_, rfl, 1, _, rfl, ⟨by omega, by omega, by omega, by omega⟩, fun L nL => ?_⟩
      refine lc_range (lo := 1) (n := ((n : Int) - 1).toNat) (TreeAt H' L) (treeAt_nil nL) ?_ ?_
      · rintro i H2 hi t
        rw [ek i]
        refine ⟨rfl, yes_ ?_⟩
        refine ⟨_, rfl, _, rfl, a, _, rfl, hp.same t.1, by omega, by omega, fun r r0 r1 => ⟨_, rfl, by show 2 ≤ sizeLine; decide, fun T nT => ?_⟩⟩
        obtain ⟨x, rfl⟩ : ∃ x : Nat, r = x := ⟨r.toNat, by omega⟩
        exact tree_push nL t nT rfl (by omega) (by omega)
      intro H1 t1
      rw [eN] at t1
      have hp1 : PoolAt H1 a := hp.same t1.1
      refine ⟨MidG H' a most genus kind n, ?_, ?_⟩
      · -- the kinds
        refine ⟨_, rfl, rfl, _, rfl, ifD (fun _ => ?_) (fun _ => ?_)⟩
        · refine ⟨_, rfl, 1, _, rfl, ⟨by omega, by omega, by omega, by omega⟩, fun L2 nL2 => ?_⟩
          refine lc_range (lo := 1) (n := ((n : Int) - 1).toNat) (TreeAt H1 L2) (treeAt_nil nL2) ?_ ?_
          · rintro i H2 hi t
            rw [ek i]
            refine ⟨rfl, yes_ ?_⟩
            refine ⟨_, rfl, _, _, rfl, rfl, _, rfl, by show 2 ≤ sizeLine; decide, fun T nT => ?_⟩
            exact tree_push nL2 t nT (congrArg V.int (by omega : ((i + 1 : Nat) : Int) - 1 = (i : Int))) (Nat.le_refl _) (by omega)
          · intro H2 t
            rw [eN] at t
            exact midG_tree t t1.1 nL2 n3 x0 (by omega)
        refine ⟨_, rfl, rfl, _, rfl, ifD (fun _ => ?_) (fun _ => ?_)⟩
        · refine ⟨_, rfl, 1, _, rfl, ⟨by omega, by omega, by omega, by omega⟩, fun L2 nL2 => ?_⟩
          refine lc_range (lo := 1) (n := ((n : Int) - 1).toNat) (TreeAt H1 L2) (treeAt_nil nL2) ?_ ?_
          · rintro i H2 hi t
            rw [ek i]
            refine ⟨rfl, yes_ ?_⟩
            refine ⟨_, rfl, by show 2 ≤ sizeLine; decide, fun T nT => ?_⟩
            exact tree_push (x := 0) nL2 t nT rfl (Nat.zero_le _) (by omega)
          · intro H2 t
            rw [eN] at t
            exact midG_tree t t1.1 nL2 n3 x0 (by omega)
        -- elif kind == 4 and genus >= 1
        refine st_ite (ans_and2 (fun Q q => ⟨_, rfl, rfl, _, rfl, q⟩) (fun Q q => ⟨_, rfl, _, _, rfl, rfl, _, rfl, q⟩)) (fun hc => ?_) (fun _ => ?_)
        · have hg : (1 : Int) ≤ genus := of_decide_eq_true (Bool.and_eq_true_iff.mp hc).2
          refine ⟨_, rfl, 1, _, rfl, ⟨by omega, by omega, by omega, by omega⟩, fun L2 nL2 => ?_⟩
          refine lc_range (lo := 1) (n := ((n : Int) - 1).toNat) (TreeAt H1 L2) (treeAt_nil nL2) ?_ ?_
          · rintro i H2 hi t
            rw [ek i]
            refine ⟨rfl, yes_ ?_⟩
            refine ⟨_, rfl, _, _, rfl, rfl, _, rfl, by show 2 ≤ sizeLine; decide, fun T nT => ?_⟩
            exact tree_push nL2 t nT (congrArg V.int (by omega : ((i + 1 : Nat) : Int) - 1 = (i : Int))) (Nat.le_refl _) (by omega)
          · intro H2 t
            rw [eN] at t
            obtain ⟨sm2, ps, ⟨vs, pl1, pl2⟩, tr, el⟩ := t
            refine ⟨_, rfl, _, _, rfl, rfl, by show 2 ≤ sizeLine; decide, fun T nT => ⟨by show 1 ≤ sizeLine; decide, fun R nR => ?_⟩⟩
            have lvs := pl2.len
            have s3 : Same H2 (upd H2 T (.tup [.int 0, .int ((n : Int) - 1)])) := same_upd nT
            have s4 : Same H2 (upd (upd H2 T (.tup [.int 0, .int ((n : Int) - 1)])) R (.lst [.ref T])) := s3.trans (same_upd nR)
            have hT : (upd (upd H2 T (.tup [.int 0, .int ((n : Int) - 1)])) R (.lst [.ref T])) T = some (.tup [nV 0, nV (n - 1)]) := by
              have : T ≠ R := fun e => by rw [← e, upd_same] at nR; cases nR
              rw [upd_ne this, upd_same]
              have e : V.int ((n : Int) - 1) = nV (n - 1) := congrArg V.int (by omega)
              rw [e]; rfl
            refine ⟨L2, R, vs, [.ref T], rfl, rfl, s4 _ _ pl1, upd_same, size_le (by show vs.length + 1 ≤ 100000; omega), fun pp np => ?_⟩
            refine ⟨_, rfl, _, rfl, _, _, rfl, rfl, _, _, rfl, ?_⟩
            have e : ps.length + 1 = n := by omega
            refine ⟨pp, _, ps ++ [(0, n - 1)], none, rfl, ((t1.1.trans sm2).trans s4).trans (same_upd np), ((t1.1.trans sm2).trans s4).free np, ⟨_, upd_same, Prs.same (same_upd np) (Prs.app (pl2.same s4) ⟨⟨T, rfl, hT⟩, True.intro⟩)⟩, ?_, ?_, ?_, (e ▸ tr.edg : Edg n ps).app ?_, (e ▸ tr.spans : Spans n ps).app⟩
            · show 0 ≤ if genus - 1 < more then genus - 1 else more
              split <;> omega
            · rw [List.length_append]
              show ((ps.length + 1 : Nat) : Int) + (if genus - 1 < more then genus - 1 else more) + 1 ≤ _
              split <;> omega
            · rw [List.length_append]; show 1 ≤ ps.length + 1; omega
            · intro e he
              rw [List.mem_singleton.mp he]
              show 0 ≠ n - 1 ∧ 0 < n ∧ n - 1 < n
              omega
        -- elif kind == 5 and ..
        refine st_ite (ans_and2 (fun Q q => ⟨_, rfl, rfl, _, rfl, q⟩) (fun Q q => ⟨_, rfl, _, _, rfl, rfl, _, rfl, _, _, rfl, rfl, _, _, rfl, rfl, .inl ⟨by omega, by omega⟩, _, _, rfl, rfl, ⟨by decide, by decide⟩, .inl ⟨_, rfl, _, rfl, _, _, rfl, rfl, _, rfl, q⟩⟩)) (fun hc => ?_) (fun _ => ?_)
        · have hg : ((n : Int) - 1) * ((n : Int) - 2) / 2 ≤ genus := of_decide_eq_true (Bool.and_eq_true_iff.mp hc).2
          refine ⟨_, rfl, n, rfl, by omega, fun H2 pp sm2 np pl => ⟨_, _, rfl, ?_⟩⟩
          refine ⟨pp, 0, allPairs n, none, rfl, t1.1.trans sm2, t1.1.free np, pl, Int.le_refl 0, ?_, ?_, allPairs_edg, allPairs_spans⟩
          · have := allPairs_len2 n
            have e1 : ((n : Int) - 1) * ((n : Int) - 2) = (n : Int) * ((n : Int) - 1) - 2 * ((n : Int) - 1) := by
              rw [Int.sub_mul, Int.mul_sub, Int.mul_sub, Int.mul_sub]; omega
            have e2 : (n : Int) * ((n : Int) - 1) = 2 * ((allPairs n).length : Int) := by
              have : ((n * (n - 1) : Nat) : Int) = ((2 * (allPairs n).length : Nat) : Int) := by rw [this]
              rw [Int.natCast_mul, Int.natCast_mul] at this
              have e3 : ((n - 1 : Nat) : Int) = (n : Int) - 1 := by omega
              rw [e3] at this
              exact this
            rw [e1, e2] at hg
            omega
          · have := allPairs_len2 n
            have h2 : 2 * 1 ≤ n * (n - 1) := Nat.mul_le_mul n3 (by omega)
            omega
        -- elif kind == 6 and n > 3 and ..
        have eh : ((n : Int) / 2) = ((n / 2 : Nat) : Int) := rfl
        have ed : ((n : Int) - ((n / 2 : Nat) : Int)) = ((n - n / 2 : Nat) : Int) := by omega
        refine st_ite (ans_and2 (fun Q q => ⟨_, rfl, rfl, _, rfl, q⟩) (ans_and2 (fun Q q => ⟨_, rfl, _, _, rfl, rfl, _, rfl, q⟩)
          (fun Q q => ⟨_, rfl, _, _, rfl, rfl, ⟨by decide, by decide⟩, .inl ⟨_, rfl, _, rfl, _, rfl, _, _, rfl, rfl, ⟨by decide, by decide⟩, .inl ⟨_, rfl, _, _, rfl, rfl, _, _, rfl, rfl, .inl ⟨by omega, by omega⟩, _, rfl, _, _, rfl, rfl, _, _, rfl, rfl, _, rfl, _, _, rfl, rfl, _, rfl, q⟩⟩⟩))) (fun hc => ?_) (fun _ => ?_)
        · obtain ⟨_, hc⟩ := Bool.and_eq_true_iff.mp hc
          obtain ⟨hn3, hc⟩ := Bool.and_eq_true_iff.mp hc
          have hn3 : (3 : Int) < n := of_decide_eq_true hn3
          have hg : ((n : Int) / 2) * ((n : Int) - (n : Int) / 2) - n + 1 ≤ genus := of_decide_eq_true hc
          rw [eh, ed, ← Int.natCast_mul] at hg
          have hm : ((n / 2 * (n - n / 2) : Nat) : Int) ≤ 4096 := by
            have : n / 2 * (n - n / 2) ≤ 64 * 64 := Nat.mul_le_mul (by omega) (by omega)
            omega
          refine ⟨_, rfl, n, rfl, by omega, fun H3 p3 s3 _ pl3 => ?_⟩
          obtain ⟨vs3, hv3, hp3⟩ := id pl3
          refine ⟨p3, rfl, ⟨_, SqL.of hv3⟩, fun L2 nL2 => ?_⟩
          refine lc_list (K := K) (a := p3) (xs := vs3) (fun i H4 => Same H3 H4 ∧ PLst H4 L2 (((allPairs n).take i).filter (fun e => decide (e.1 < n / 2) && decide (n / 2 ≤ e.2)))) ⟨same_upd nL2, [], upd_same, True.intro⟩ (fun i H4 _ p => SqL.of (p.1 _ _ hv3)) ?_ ?_
          · rintro i x H4 hx ⟨sm4, pl4⟩
            have hi : i < (allPairs n).length := by rw [← hp3.len]; exact (List.getElem?_eq_some_iff.mp hx).1
            obtain ⟨t, e1, e2⟩ := hp3.get hi
            rw [hx] at e1
            obtain rfl := Option.some.inj e1
            have ea : (allPairs n)[i]? = some (allPairs n)[i] := List.getElem?_eq_getElem hi
            generalize (allPairs n)[i] = e at e2 ea
            obtain ⟨u, v⟩ := e
            have ht := sm4 _ _ e2
            refine ⟨rfl, ?_⟩
            have go : ∀ b : Bool, (decide (u < n / 2) && decide (n / 2 ≤ v)) = b → (if b = true then ∃ acc, H4 L2 = some (.lst acc) ∧ acc.length < sizeLine ∧ (Same H3 (upd H4 L2 (.lst (acc ++ [.ref t]))) ∧ PLst (upd H4 L2 (.lst (acc ++ [.ref t]))) L2 (((allPairs n).take (i + 1)).filter (fun e => decide (e.1 < n / 2) && decide (n / 2 ≤ e.2)))) else (Same H3 H4 ∧ PLst H4 L2 (((allPairs n).take (i + 1)).filter (fun e => decide (e.1 < n / 2) && decide (n / 2 ≤ e.2))))) := fun b hb => by
              have et : ((allPairs n).take (i + 1)).filter (fun e => decide (e.1 < n / 2) && decide (n / 2 ≤ e.2)) = ((allPairs n).take i).filter (fun e => decide (e.1 < n / 2) && decide (n / 2 ≤ e.2)) ++ (if b = true then [(u, v)] else []) := by
                rw [List.take_add_one, ea, List.filter_append]
                congr 1
                cases b with
                | true => rw [if_pos rfl]; exact List.filter_cons_of_pos (l := []) hb
                | false => rw [if_neg (by decide)]; exact List.filter_cons_of_neg (l := []) (by rw [hb]; decide)
              rw [et]
              cases b with
              | true =>
                rw [if_pos rfl, if_pos rfl]
                obtain ⟨acc, k1, k2, k3⟩ := pl4.push' ht
                refine ⟨acc, k1, size_lt ?_, same_mut sm4 nL2, k3⟩
                have h1 : (((allPairs n).take i).filter (fun e => decide (e.1 < n / 2) && decide (n / 2 ≤ e.2))).length ≤ ((allPairs n).take i).length := List.length_filter_le _ _
                have h2 := allPairs_le n
                have h3 : n * n ≤ 64 * 64 := Nat.mul_le_mul (by omega) (by omega)
                rw [List.length_take] at h1
                omega
              | false =>
                rw [if_neg (by decide), if_neg (by decide), List.append_nil]
                exact ⟨sm4, pl4⟩
            refine ⟨_, rfl, _, _, 0, nV u, rfl, rfl, SqT.of ht, rfl, _, rfl, _, _, rfl, rfl, ⟨by decide, by decide⟩, .inl ⟨_, rfl, ?_⟩⟩
            refine ⟨_, _, rfl, rfl, _, rfl, ifD (fun h1 => ?_) (fun h1 => ?_)⟩
            · have h1 : u < n / 2 := by omega
              refine ⟨_, rfl, _, _, 1, nV v, rfl, rfl, SqT.of ht, rfl, _, _, rfl, rfl, _, rfl, ifD (fun h2 => ?_) (fun h2 => ?_)⟩
              · have g := go true (by rw [decide_eq_true h1, decide_eq_true (by omega)]; rfl)
                rw [if_pos rfl] at g
                exact ⟨_, rfl, g⟩
              · have g := go false (by rw [decide_eq_false (show ¬ n / 2 ≤ v by omega), Bool.and_false])
                rw [if_neg (by decide)] at g
                exact g
            · have g := go false (by rw [decide_eq_false (show ¬ u < n / 2 by omega), Bool.false_and])
              rw [if_neg (by decide)] at g
              exact ⟨_, rfl, g⟩
          · rintro H4 ⟨sm4, pl4⟩
            rw [hp3.len, List.take_length] at pl4
            refine ⟨_, _, rfl, ?_⟩
            have s14 := t1.1.trans (s3.trans sm4)
            refine ⟨L2, 0, _, none, rfl, s14, (t1.1.trans s3).free nL2, pl4, Int.le_refl 0, ?_, ?_, half_edg, half_spans (by omega) (by omega)⟩
            · have := half_len n (n / 2) (by omega)
              omega
            · exact half_pos (by omega) (by omega)
        -- elif kind == 7
        refine ⟨_, rfl, rfl, _, rfl, ifD (fun _ => ?_) (fun _ => ?_)⟩
        · refine ⟨_, rfl, 1, _, rfl, ⟨by omega, by omega, by omega, by omega⟩, fun L2 nL2 => ?_⟩
          refine lc_range (lo := 1) (n := ((n : Int) - 1).toNat) (TreeAt H1 L2) (treeAt_nil nL2) ?_ ?_
          · rintro i H2 hi t
            rw [ek i]
            refine ⟨rfl, yes_ ?_⟩
            refine ⟨_, rfl, _, rfl, _, _, rfl, rfl, by show 2 ≤ sizeLine; decide, fun R nR => ?_⟩
            have sR := same_upd (o := .lst [.int 0, .int (((i + 1 : Nat) : Int) - 1)]) nR
            refine ⟨a, R, _, rfl, (hp1.same t.1).same sR, SqL.of upd_same, by show 0 < 2; decide, by show 2 < 1000000000; decide, fun j v hj => ?_⟩
            refine ⟨_, rfl, by show 2 ≤ sizeLine; decide, fun T nT => ?_⟩
            match j, hj with
            | 0, hj => exact tree_push nL2 (t.same sR) nT (Option.some.inj hj).symm (Nat.zero_le _) (by omega)
            | 1, hj => exact tree_push nL2 (t.same sR) nT ((Option.some.inj hj).symm.trans (congrArg V.int (by omega : ((i + 1 : Nat) : Int) - 1 = (i : Int)))) (Nat.le_refl _) (by omega)
            | j + 2, hj => exact nomatch hj
          · intro H2 t
            rw [eN] at t
            exact midG_tree t t1.1 nL2 n3 x0 (by omega)
        · exact midG_tree t1 (Same.refl _) nL n3 x0 (by omega)
      · rintro σ2 H2 ⟨pp, mr, ps, yh, rfl, sm2, npp, pl, mr0, hlen, l1, ed, sp⟩
        obtain ⟨vs, hv1, hv2⟩ := pl.size
        refine ⟨_, rfl, _, rfl, _, rfl, _, ps.length, rfl, .inl ⟨_, SqL.of hv1, hv2.symm⟩, ?_⟩
        refine ⟨a, _, rfl, hp.same sm2, by omega, by omega, fun r r0 r1 => ?_⟩
        have hr2 : r.toNat < ps.length := by omega
        obtain ⟨vs', hv3, hv4⟩ := pl
        obtain ⟨t, et, ht⟩ := Prs.get hv4 hr2
        refine ⟨_, _, r, _, rfl, rfl, SqL.of hv3, atI_int r0 et, ?_⟩
        obtain ⟨ne, ht1, ht2⟩ := ed _ (List.getElem_mem hr2)
        generalize ps[r.toNat] = e0 at ht ne ht1 ht2
        -- for turn in range(more)
        refine ⟨fun σ3 H3 => ∃ (y9 y10 y11 : Option V) (qs : List Pr), σ3 = [some (.ref a), some (.int most), some (.int genus), some (nV n), some (.int kind), some (.int mr), some (.ref pp), some (.ref t), y9, y10, y11, none, none, none, none, none, none] ∧
          Same H' H3 ∧ PLst H3 pp qs ∧ (qs.length : Int) + 1 ≤ n + genus ∧ 1 ≤ qs.length ∧ Edg n qs ∧ Spans n qs, ?_, ?_⟩
        · refine ⟨_, rfl, mr, rfl, by omega, by omega, for_range (lo := 0) (n := mr.toNat) (fun i σ3 H3 => ∃ (y9 y10 y11 : Option V) (qs : List Pr), σ3 = [some (.ref a), some (.int most), some (.int genus), some (nV n), some (.int kind), some (.int mr), some (.ref pp), some (.ref t), y9, y10, y11, none, none, none, none, none, none] ∧
            Same H' H3 ∧ PLst H3 pp qs ∧ qs.length = ps.length + i ∧ Edg n qs ∧ Spans n qs ∧ H3 t = some (.tup [nV e0.1, nV e0.2])) ?_ ?_ ?_⟩
          · exact ⟨none, none, none, ps, rfl, sm2, ⟨vs', hv3, hv4⟩, rfl, ed, sp, ht⟩
          · rintro i σ3 H3 hi ⟨y9, y10, y11, qs, rfl, sm3, pl3, lq, edq, spq, ht3⟩
            have hp3 : PoolAt H3 a := hp.same sm3
            refine ⟨_, rfl, _, rfl, a, _, rfl, hp3, by omega, by omega, fun x x0' x1' => ?_⟩
            obtain ⟨x, rfl⟩ : ∃ x' : Nat, x = x' := ⟨x.toNat, by omega⟩
            refine ⟨_, rfl, _, _, rfl, rfl, _, rfl, _, rfl, _, _, rfl, rfl, a, _, rfl, hp3, by omega, by omega, fun y y0' y1' => ?_⟩
            obtain ⟨y, rfl⟩ : ∃ y' : Nat, y = y' := ⟨y.toNat, by omega⟩
            refine ⟨_, _, rfl, rfl, .inl ⟨_, rfl, _, rfl, _, _, rfl, rfl, by show (0 : Int) < n; omega, ?_⟩⟩
            obtain ⟨mo1, mo2⟩ := mod_other (n := n) (x := x) (y := y) (by omega) (by omega)
            obtain ⟨ws, hw1, hw2⟩ := pl3.size
            refine ⟨_, rfl, .inl ⟨rfl, _, SqL.of hw1⟩, _, rfl, a, _, rfl, hp3, by decide, by decide, fun z z0 z1 => ⟨rfl, _, rfl, ifD (fun _ => ?_) (fun _ => ?_)⟩⟩
            · obtain ⟨ws', k1', k2', k3'⟩ := pl3.push' ht3
              refine ⟨_, rfl, pp, ws', _, rfl, rfl, k1', size_lt (by omega), ?_⟩
              refine ⟨_, _, _, qs ++ [(e0.1, e0.2)], rfl, same_mut sm3 npp, k3', by rw [List.length_append, lq]; rfl, edq.app ?_, spq.app, ?_⟩
              · intro e he
                rw [List.mem_singleton.mp he]
                exact ⟨ne, ht1, ht2⟩
              · rw [upd_ne (ne_of ht3 k1' (fun q => by cases q))]; exact ht3
            · refine ⟨_, rfl, _, rfl, by show 2 ≤ sizeLine; decide, fun T nT => ?_⟩
              have vo : V.int (((x : Int) + 1 + (y : Int)) % (n : Int)) = nV ((x + 1 + y) % n) := rfl
              obtain ⟨ws', k1', k2', k3'⟩ := pl3.pushV (Same.refl H3) nT (rfl : V.int (x : Int) = nV x) vo
              refine ⟨pp, ws', _, rfl, rfl, k1', size_lt (by omega), ?_⟩
              refine ⟨_, _, _, qs ++ [(x, (x + 1 + y) % n)], rfl, same_mut (sm3.trans (same_upd nT)) npp, k3', by rw [List.length_append, lq]; rfl, edq.app ?_, spq.app, ?_⟩
              · intro e he
                rw [List.mem_singleton.mp he]
                exact ⟨fun q => mo1 q.symm, by omega, mo2⟩
              · rw [upd_ne (ne_of ((same_upd nT) _ _ ht3) k1' (fun q => by cases q))]
                exact (same_upd nT) _ _ ht3
          · rintro σ3 H3 ⟨y9, y10, y11, qs, rfl, sm3, pl3, lq, edq, spq, ht3⟩
            exact ⟨_, _, _, qs, rfl, sm3, pl3, by omega, by omega, edq, spq⟩
        · rintro σ3 H3 ⟨y9, y10, y11, qs, rfl, sm3, pl3, lq, lq1, edq, spq⟩
          -- order, edges
          refine ⟨_, rfl, _, rfl, a, _, rfl, hp.same sm3, by omega, by omega, fun H4 op o sm4 ho hperm => ?_⟩
          rw [Int.toNat_natCast] at hperm
          have lo : o.length = n := by rw [hperm.length_eq, List.length_range]
          obtain ⟨ws, hw1, hw2⟩ := pl3.same sm4
          have lw := hw2.len
          refine ⟨_, rfl, pp, rfl, ⟨_, SqL.of hw1⟩, fun E1 nE1 => ?_⟩
          refine lc_list (K := K) (a := pp) (xs := ws) (fun i H5 => Same H4 H5 ∧ PLst H5 E1 ((qs.map (relabel o)).take i)) ⟨same_upd nE1, [], upd_same, by rw [List.take_zero]; exact True.intro⟩ (fun i H5 _ h => SqL.of (h.1 _ _ hw1)) ?_ ?_
          · rintro i x H5 hx ⟨sm5, pl5⟩
            have hi : i < qs.length := by rw [← lw]; exact (List.getElem?_eq_some_iff.mp hx).1
            obtain ⟨T, eT, hT⟩ := Prs.get hw2 hi
            rw [eT] at hx
            obtain rfl := Option.some.inj hx
            have hT5 := sm5 _ _ hT
            obtain ⟨_, u1, u2⟩ := edq _ (List.getElem_mem hi)
            have g1 : (o.map nV)[qs[i].1]? = some (nV (o.getD qs[i].1 0)) := by
              rw [List.getD_eq_getElem?_getD, List.getElem?_map, List.getElem?_eq_getElem (by omega)]; rfl
            have g2 : (o.map nV)[qs[i].2]? = some (nV (o.getD qs[i].2 0)) := by
              rw [List.getD_eq_getElem?_getD, List.getElem?_map, List.getElem?_eq_getElem (by omega)]; rfl
            have ho5 := SqT.of (K := K) (sm5 _ _ ho)
            refine ⟨T, _, rfl, SqT.of hT5, rfl, _, _, rfl, _, _, rfl, rfl, rfl, yes_ ?_⟩
            refine ⟨_, rfl, _, rfl, _, _, _, _, rfl, rfl, ho5, atI_nat g1, _, rfl, _, rfl, _, _, _, _, rfl, rfl, ho5, atI_nat g2, _, _, rfl, ?_⟩
            refine ⟨_, rfl, _, rfl, _, _, _, _, rfl, rfl, ho5, atI_nat g1, _, rfl, _, rfl, _, _, _, _, rfl, rfl, ho5, atI_nat g2, _, _, rfl, by show 2 ≤ sizeLine; decide, fun T2 nT2 => ?_⟩
            have m1' : V.int (if ((o.getD qs[i].2 0 : Nat) : Int) < ((o.getD qs[i].1 0 : Nat) : Int) then ((o.getD qs[i].2 0 : Nat) : Int) else ((o.getD qs[i].1 0 : Nat) : Int)) = nV (min (o.getD qs[i].1 0) (o.getD qs[i].2 0)) := congrArg V.int (by split <;> omega)
            have m2' : V.int (if ((o.getD qs[i].2 0 : Nat) : Int) > ((o.getD qs[i].1 0 : Nat) : Int) then ((o.getD qs[i].2 0 : Nat) : Int) else ((o.getD qs[i].1 0 : Nat) : Int)) = nV (max (o.getD qs[i].1 0) (o.getD qs[i].2 0)) := congrArg V.int (by split <;> omega)
            obtain ⟨zs, k1', k2', k3'⟩ := pl5.pushV (Same.refl H5) nT2 m1' m2'
            refine ⟨zs, k1', size_lt (by rw [k2', List.length_take]; omega), same_mut (sm5.trans (same_upd nT2)) nE1, ?_⟩
            rw [List.take_add_one, List.getElem?_map, List.getElem?_eq_getElem hi]
            exact k3'
          · rintro H5 ⟨sm5, pl5⟩
            rw [lw, List.take_of_length_le (by rw [List.length_map]; exact Nat.le_refl _)] at pl5
            have gd := relabel_good (by omega) hperm edq spq
            obtain ⟨zs, hz1, hz2⟩ := pl5.size
            rw [List.length_map] at hz2
            have hp5 : PoolAt H5 a := hp.same ((sm3.trans sm4).trans sm5)
            refine ⟨_, rfl, _, rfl, _, rfl, _, qs.length, rfl, .inl ⟨_, SqL.of hz1, hz2.symm⟩, a, _, rfl, hp5, by omega, by omega, fun H6 op2 o2 sm6 ho2 hperm2 => ?_⟩
            rw [Int.toNat_natCast] at hperm2
            have lo2 : o2.length = qs.length := by rw [hperm2.length_eq, List.length_range]
            refine ⟨op2, rfl, ⟨_, SqT.of ho2⟩, fun E2 nE2 => ?_⟩
            obtain ⟨zs6, hz6, hz7⟩ := pl5.same sm6
            refine lc_tup (K := K) (a := op2) (xs := o2.map nV) (fun i H7 => Same H6 H7 ∧ PLst H7 E2 ((pick (qs.map (relabel o)) o2).take i)) ⟨same_upd nE2, [], upd_same, by rw [List.take_zero]; exact True.intro⟩ (fun i H7 _ h => SqT.of (h.1 _ _ ho2)) ?_ ?_
            · rintro i x H7 hx ⟨sm7, pl7⟩
              have hi : i < o2.length := by
                have := (List.getElem?_eq_some_iff.mp hx).1
                rwa [List.length_map] at this
              rw [getMap hi] at hx
              obtain rfl := Option.some.inj hx
              have hk : o2[i] < (qs.map (relabel o)).length := by
                rw [List.length_map]
                exact List.mem_range.mp (hperm2.mem_iff.mp (List.getElem_mem hi))
              obtain ⟨T, eT, hT⟩ := Prs.get hz7 hk
              refine ⟨rfl, yes_ ?_⟩
              refine ⟨_, rfl, _, rfl, _, _, _, _, rfl, rfl, SqL.of (sm7 _ _ hz6), atI_nat eT, ?_⟩
              obtain ⟨ws', k1', k2', k3'⟩ := pl7.push' (sm7 _ _ hT)
              refine ⟨ws', k1', size_lt (by rw [k2', List.length_take]; omega), same_mut sm7 nE2, ?_⟩
              unfold pick
              rw [List.take_add_one, List.getElem?_map, List.getElem?_eq_getElem hi]
              have e : (qs.map (relabel o)).getD o2[i] (0, 0) = (qs.map (relabel o))[o2[i]] := by
                rw [List.getD_eq_getElem?_getD, List.getElem?_eq_getElem hk]; rfl
              show PLst _ E2 (_ ++ [(qs.map (relabel o)).getD o2[i] (0, 0)])
              rw [e]
              exact k3'
            · rintro H7 ⟨sm7, pl7⟩
              have lp : (pick (qs.map (relabel o)) o2).length = qs.length := by unfold pick; rw [List.length_map, lo2]
              rw [List.length_map, List.take_of_length_le (by rw [lp, lo2]; exact Nat.le_refl _)] at pl7
              have pm : (pick (qs.map (relabel o)) o2).Perm (qs.map (relabel o)) := pick_perm (by rw [List.length_map]; exact hperm2)
              refine ⟨by show 2 ≤ sizeLine; decide, fun t nt => ?_⟩
              refine q _ t E2 n _ (((((sm3.trans sm4).trans sm5).trans sm6).trans sm7).trans (same_upd nt)) upd_same ((((sm3.trans sm4).trans sm5).trans sm6).free nE2) (pl7.same (same_upd nt)) n1 n2 (gd.perm pm) ?_
              rw [lp]; exact lq
end
end G3

set_option Elab.async false
set_option linter.all false
set_option maxRecDepth 100000
set_option maxHeartbeats 4000000
/-! An own error whose __init__ says super().__init__(number) and self.number = number; made, raised, caught. -/
namespace SupX
open PySem PySem.W PySem.Calls PyProof.Rows PySem.HandSPX
def iA (p1 p2 : Pos) : Arguments :=
  { posonlyargs := [], args := [⟨"self", none, p1⟩, ⟨"number", none, p2⟩], vararg := none, kwonlyargs := [], kw_defaults := [], kwarg := none, defaults := [] }
def iB (q1 q2 q3 q4 q5 q6 q7 q8 q9 q10 : Pos) : List Stmt :=
  [.Expr (.Call (.Attribute (.Call (.Name "super" q1) [] [] q2) "__init__" q3) [.Name "number" q4] [] q5) q6, .Assign [.Attribute (.Name "self" q7) "number" q8] (.Name "number" q9) q10]
def iS : Scope :=
  { kind := .function, names := [(Str.ofString "self", .local), (Str.ofString "number", .local), (Str.ofString "__class__", .free), (Str.ofString "super", .globalImplicit)], isGenerator := false, isCoroutine := false, more := [] }
/-- what the written part says of such a class at C, its name x, its __init__ at fI -/
structure SupTxt (prog : Program) (K : Frag) (mg : Str → Option Value) (x : Str) (C fI : Addr) : Prop where
  gC : mg x = some (.ref C)
  cls : ∃ nm q N bs bm sn sub ab col dd k0 k1 k2 k3 k5, K.lookup C = some (excClassObj nm q C N bs bm true sn sub ab col dd k0 k1 k2 k3 k5 "ValueError.__new__") ∧ refsVE bm = true
  sa : findIn K (.ref C) "__setattr__" = some (some (.builtin "object.__setattr__"))
  ga : findIn K (.ref C) "__getattribute__" = some (some (.builtin "BaseException.__getattribute__"))
  gg : findIn K (.ref C) "__getattr__" = some none
  noN : findIn K (.ref C) "number" = some none
  iC : findIn K (.ref C) "__init__" = some (some (.ref fI))
  tC : typeIn K (.ref fI) = some (.type "function")
  kC : keepIn K (.ref C) = true
  exC : subIn K (.ref C) (.type "BaseException") = some true
  vE : subIn K (.ref C) (.type "ValueError") = some true
  tyC : typeIn K (.ref C) = some (.type "type")
  hdC : hasDictIn K C = true
  sup : ks_superIn K C C "__init__" = some (some (.builtin "ValueError.__init__"))
  self_ : mroIn K C (.ref C) = some true
  stat : nsIn K cStatics "thirdparty.any" = some none
  free : mg "super" = none
  htop : (prog.main.scope.names.lookup (Str.ofString "super")).isSome = false
  fn : ∃ (oc : Value) (od : Option Addr) (doc pm : Value) (an : Option Addr) (ct : Value) (osl : Array (Option Value)) (p1 p2 q1 q2 q3 q4 q5 q6 q7 q8 q9 q10 : Pos) (qual : Str) (cda cc : Addr),
    K.lookup fI = some ⟨oc, od, .func (ksFn "__init__" qual (iA p1 p2) (iB q1 q2 q3 q4 q5 q6 q7 q8 q9 q10) iS .none .none doc pm an (.ref cda) ct cc), osl⟩ ∧ codeIn K (.ref cda) qual = true ∧ (q3.endLine == q5.line) = true ∧
    (∃ (cl : Value) (cld : Option Addr) (csl : Array (Option Value)), K.lookup cc = some ⟨cl, cld, .cell (some (.ref C)), csl⟩) ∧
    ∃ (ccl : Value) (cdd : Option Addr) (ccs : Array (Option Value)) (vs : Array Value) (file : Str) (tf : Tok), K.lookup cda = some ⟨ccl, cdd, .fields vs, ccs⟩ ∧ vs[2]? = some (.str file tf) ∧ ((prog.main.file : Str) == file) = true
/-- what __init__ leaves of a fresh exception at e -/
structure SupEnd (h h' : Heap) (e C dx t1 : Addr) (v : Value) : Prop where
  keep : ∀ b o, b ≠ e → h.get? b = some o → h'.get? b = some o
  obj : h'.get? e = some { cls := .ref C, dict := some dx, data := .fields #[.ref t1, .none, .none, .none, .bool false, .none] }
  dbig : h.objs.size ≤ dx
  dne : dx ≠ e
  ns : h'.Ns1 dx (fun y => if y = "number" then some v else none)
theorem in_but {K : Frag} {h h' : Heap} {x : Addr} (X : K.In h) (hx : K.lookup x = none) (k : ∀ b o, b ≠ x → h.get? b = some o → h'.get? b = some o) : K.In h' := fun a o q =>
  k a o (fun z => by rw [z, hx] at q; cases q) (X a o q)
section
variable {prog : Program} {w : World} {A : Around} {E : Value → Shared → Prop} {R : Result → Shared → Prop} {s : Shared} {K : Frag} {mg mb : Str → Option Value} {x : Str} {C fI : Addr}
theorem sup_init (T : SupTxt prog K mg x C fI) {e t0 : Addr} {v : Value} (X : K.In s.heap) (hlim : s.heap.NoLimit) (G : s.heap.Ns mainGlobals mg) (Bn : s.heap.Ns builtinsNs mb) (hb : mb "super" = some (.type "super"))
    (hx : s.heap.get? e = some (excO C t0)) (hnx : K.lookup e = none) (hroom : A.depth < recursionLimit)
    (hq : ∀ h' tk dx t1, SupEnd s.heap h' e C dx t1 v → R (.ok (.ret .none)) { s with heap := h', toks := tk }) :
    codeAny (model prog w) A (.call (.ref fI) ⟨[.ref e, v], []⟩) R s := by
  obtain ⟨hp, g, d, t, os⟩ := s
  obtain ⟨oc, od, doc, pm, an, ct, osl, p1, p2, q1, q2, q3, q4, q5, q6, q7, q8, q9, q10, qual, cda, cc, ho, hcd, hline, ⟨cl, cld, csl, hcc⟩, ccl, cdd, ccs, vs, file, tf, hcode, hvs, hfile⟩ := T.fn
  obtain ⟨nm, q, N, bs, bm, sn, sub, ab, col, dd, k0, k1, k2, k3, k5, hC, hbm⟩ := T.cls
  have hcl : clsIn K C = some { name := nm, bases := bs, mro := .ref C :: bm, ns := N, qualname := q, hasDict := true, slotNames := sn, subclasses := sub, abstract := ab, collection := col, hasDel := false } := by unfold clsIn; rw [hC] <;> rfl
  refine ks_codeAny_call_defAt (fd := ksFn "__init__" qual (iA p1 p2) (iB q1 q2 q3 q4 q5 q6 q7 q8 q9 q10) iS .none .none doc pm an (.ref cda) ct cc) (body := iB q1 q2 q3 q4 q5 q6 q7 q8 q9 q10)
    (binds := [("self", .ref e), ("number", v)]) hroom (X _ _ ho) rfl hlim (codeRec_of X hcd) rfl (BindsTo.of_eq (by first | rfl | with_unfolding_all rfl)) (show ∀ y ∈ iS.names, y.2 ≠ .cell by decide) (locs rfl) (fun h₀ hns hk => ?_)
  have X0 : K.In h₀ := X.keeps hk
  have he0 : h₀.get? e = some (excO C t0) := hk _ _ hx
  have I0 : InstAt h₀ e (excO C t0) C none := ⟨he0, rfl, rfl, trivial⟩
  have heL : e ≠ hp.objs.size := Nat.ne_of_lt (Heap.lt_size hx)
  refine ks_wpAt_execs_cons (env := ksEnv qual iS hp.objs.size fI (.ref cda) cc) (ks_wpAt_Expr_any ?_)
  have hcall : eval (.Call (.Attribute (.Call (.Name "super" q1) [] [] q2) "__init__" q3) [.Name "number" q4] [] q5) (ksEnv qual iS hp.objs.size fI (.ref cda) cc) = (do
      let ov ← attributeBase (.Call (.Name "super" q1) [] [] q2) "__init__" (ksEnv qual iS hp.objs.size fI (.ref cda) cc) (eval (.Call (.Name "super" q1) [] [] q2) (ksEnv qual iS hp.objs.size fI (.ref cda) cc))
      standAt q3.atName
      let (f, first) ← holding [ov] (getMethod ov "__init__" (L2.plainOf (.Call (.Name "super" q1) [] [] q2) (ksEnv qual iS hp.objs.size fI (.ref cda) cc)))
      callWith q5 f first (backTo q5 (starEach [.Name "number" q4] (ksEnv qual iS hp.objs.size fI (.ref cda) cc))) []) := by
    rw [arm_eval_Call]
    congr 1
    funext ov
    congr 1
    funext _
    exact L2.mcall_line rfl hline
  refine ks_wpAt_MethodCall ?_ hcall
  refine ks_wpAt_super_base (env := ksEnv qual iS hp.objs.size fI (.ref cda) cc) rfl rfl rfl rfl (X0 _ _ ho) rfl rfl rfl (X0 _ _ hcode) rfl hvs hfile T.htop ?_
  refine ks_loadName_global rfl rfl (loadGlobal_builtin (env := ksEnv qual iS hp.objs.size fI (.ref cda) cc) (G.keeps hk) T.free (Bn.keeps hk) hb ⟨rfl, ?_⟩)
  refine wpAny_loadName_free rfl rfl rfl ⟨_, X0 _ _ hcc, rfl⟩ ?_
  refine wpAny_loadName_local rfl rfl hns rfl ?_
  refine ks_wpAny_isType_cls (X0 _ _ hC) rfl ⟨rfl, ?_⟩
  refine ks_wpAny_call_super (X0 _ _ hC) rfl he0 rfl (fun c z => nomatch z) (looks_mroIn X0 T.self_) (fun h1 hso k1 => ?_)
  have X1 : K.In h1 := X0.keeps k1
  have I1 : InstAt h1 e (excO C t0) C none := ⟨k1 _ _ he0, rfl, rfl, trivial⟩
  have hal : alongIn K "__init__" (((Value.ref C :: bm).dropWhile (· != .ref C)).drop 1) = some (some (.builtin "ValueError.__init__")) := by
    have z := T.sup
    unfold ks_superIn at z
    rw [hcl] at z
    exact z
  refine kxs_getMethod kxs_ValueError hso (looks_opaque X1 T.stat) (l₀ := .ref C :: bm) (fun A Q E s k q => wpAny_bind ((looks_clsIn X1 hcl) A _ E s k (wpAny_pure q))) rfl X1 hal (I1.type.andThen (looks_subIn X1 T.vE)) (ks_ne X1 I1 hcl) rfl ?_
  have hmw : (h1.push (kxs_mw "ValueError.__init__" e)).get? h1.objs.size = some (kxs_mw "ValueError.__init__" e) := Heap.get?_push_size _ rfl
  have k2 : ∀ b o, h1.get? b = some o → (h1.push (kxs_mw "ValueError.__init__" e)).get? b = some o := fun b o z => Heap.get?_push_of_some _ z
  have k02 : ∀ b o, hp.get? b = some o → (h1.push (kxs_mw "ValueError.__init__" e)).get? b = some o := fun b o z => k2 b o (k1 b o (hk b o z))
  have hns2 : (h1.push (kxs_mw "ValueError.__init__" e)).Ns hp.objs.size (fun y => ([("self", .ref e), ("number", v)] : List (Str × Value)).reverse.lookup y) := by
    obtain ⟨oL, es, ep, hL, rr⟩ := hns
    exact ⟨oL, es, ep, k2 _ _ (k1 _ _ hL), rr⟩
  have hargs : starEach [.Name "number" q4] (ksEnv qual iS hp.objs.size fI (.ref cda) cc) = (false, eval (.Name "number" q4) (ksEnv qual iS hp.objs.size fI (.ref cda) cc)) :: starEach [] (ksEnv qual iS hp.objs.size fI (.ref cda) cc) := rfl
  rw [hargs]
  refine kxs_callWith (i := "ValueError.__init__") (x := e) (u := h1.objs.size) rfl (evalArgs_plain (spliced_cons (wpAny_Name (wpAny_loadName_local rfl rfl hns2 rfl (spliced_nil ⟨hmw, ?_⟩)) (by decide))))
  have he2 : (h1.push (kxs_mw "ValueError.__init__" e)).get? e = some (excO C t0) := k2 _ _ (k1 _ _ he0)
  have hC2 := k2 _ _ (X1 _ _ hC)
  have FB := F.excBase_ValueError
  have b1 : (Value.type "method-wrapper" == Value.type "method" || Value.type "method-wrapper" == Value.type "builtin_function_or_method" || Value.type "method-wrapper" == Value.type "method-wrapper") = true := by decide
  refine wpAny_call (codeAny_of_tree (show wpAny (model prog w) _ (callAny (.ref h1.objs.size) ⟨[v], []⟩) _ _ _ from ?_))
  unfold callAny
  refine wpAny_bind (wpAny_load hmw ?_)
  simp only [kxs_mw, b1, if_true]
  refine KFB.if_so (by decide) (wpAny_bind (check_bound_init FB.toExcCallFacts hC2 he2 rfl (wpAny_bind (wpAny_pure (wpAny_pure ⟨plainId_quiet FB.init.plain _, codeAny_builtin FB.initEntry ?_⟩)))))
  refine exc_init_tree (cls := .ref C) (t0 := t0) (dv := none) (c2 := .none) (c3 := .none) (b4 := .bool false) he2 (by show 1 ≤ sizeLine; decide) (fun h3 k3 he3 ht3 => ?_)
  have X3 : K.In h3 := in_but (X.keeps k02) hnx k3
  have hns3 : h3.Ns hp.objs.size (fun y => ([("self", .ref e), ("number", v)] : List (Str × Value)).reverse.lookup y) := by
    obtain ⟨oL, es, ep, hL, rr⟩ := hns2
    exact ⟨oL, es, ep, k3 _ _ (Ne.symm heL) hL, rr⟩
  have hlt : hp.objs.size < h3.objs.size := hns3.lt
  refine wpAt_of_wpAny (wpAny_execs_cons (plainObj_wpAny_Assign_Attribute ?_))
  refine wpAny_Name (wpAny_loadName_local rfl rfl hns3 rfl (wpAny_Name (wpAny_loadName_local rfl rfl hns3 rfl ?_) (by decide))) (by decide)
  refine set_plain X3 (ox := excO C (h1.push (kxs_mw "ValueError.__init__" e)).objs.size) (od := none) ⟨he3, rfl, rfl, trivial⟩ T.sa ?_
  refine exc_osa X3 he3 hcl (show refsVE (.ref C :: bm) = true from hbm) rfl T.noN (fun h4 tk4 dx k4 dn dne he4 hn4 => ?_)
  refine wpAny_execs_nil (hq h4 tk4 dx _ ⟨fun b o nb z => k4 b o nb (k3 b o nb (k02 b o z)), he4, Nat.le_trans (Nat.le_of_lt hlt) dn, dne, hn4⟩)
/-- such an error made -/
structure SupMade (h h' : Heap) (e C d : Addr) (v : Value) : Prop where
  keep : ∀ b o, h.get? b = some o → h'.get? b = some o
  new : h.objs.size ≤ e
  obj : ∃ oe vs, h'.get? e = some oe ∧ oe.cls = .ref C ∧ oe.dict = some d ∧ oe.data = .fields vs ∧ vs[1]? = some .none
  dbig : h.objs.size ≤ d
  dne : d ≠ e
  ns : h'.Ns1 d (fun y => if y = "number" then some v else none)
theorem sup_made (T : SupTxt prog K mg x C fI) {v : Value} (X : K.In s.heap) (hlim : s.heap.NoLimit) (G : s.heap.Ns mainGlobals mg) (Bn : s.heap.Ns builtinsNs mb) (hb : mb "super" = some (.type "super")) (hroom : A.depth + 1 < recursionLimit)
    (hq : ∀ h' tk e d, SupMade s.heap h' e C d v → R (.ok (.ret (.ref e))) { s with heap := h', toks := tk }) :
    codeAny (model prog w) A (.call (.ref C) ⟨[v], []⟩) R s := by
  obtain ⟨nm, q, N, bs, bm, sn, sub, ab, col, dd, k0, k1, k2, k3, k5, hC, hbm⟩ := T.cls
  obtain ⟨hp, g, dr, tk, os⟩ := s
  have k : ∀ b o, hp.get? b = some o → ((hp.push (kdv_tup [v])).push (excO C hp.objs.size)).get? b = some o := fun b o z => Heap.get?_push_of_some _ (Heap.get?_push_of_some _ z)
  have hget : ((hp.push (kdv_tup [v])).push (excO C hp.objs.size)).get? (hp.objs.size + 1) = some (excO C hp.objs.size) := by heap_get
  have hnx : K.lookup (hp.objs.size + 1) = none := by
    cases z : K.lookup (hp.objs.size + 1) with
    | none => rfl
    | some o => exact absurd (Nat.lt_of_succ_lt (Heap.lt_size (show hp.get? (hp.objs.size + 1) = some o from X _ _ z))) (Nat.lt_irrefl _)
  refine call_own F.excBase_ValueError (fun X => refsVE_contains X bm hbm) (X _ _ hC) (looks_findIn X T.iC) (fun self => bind_fn X self T.tC) (by show 1 ≤ sizeLine; decide) ?_
  refine sup_init (s := ⟨(hp.push (kdv_tup [v])).push (excO C hp.objs.size), g, dr, tk, os⟩) T (X.keeps k) (hlim.keeps k) (G.keeps k) (Bn.keeps k) hb hget hnx (show A.depth + 1 < recursionLimit from hroom) fun h' tk' dx t1 S => ?_
  have old : ∀ b o, hp.get? b = some o → h'.get? b = some o := fun b o z => S.keep b o (Nat.ne_of_lt (Nat.lt_succ_of_lt (Heap.lt_size z))) (k b o z)
  have z : hp.objs.size + 1 + 1 ≤ dx := by
    have q := S.dbig
    first
      | exact q
      | (simpa only [Heap.size_push] using q)
  exact ⟨rfl, hq h' tk' (hp.objs.size + 1) dx ⟨old, Nat.le_succ _, ⟨_, _, S.obj, rfl, rfl, rfl, rfl⟩, Nat.le_trans (Nat.le_trans (Nat.le_succ _) (Nat.le_succ _)) z, S.dne, S.ns⟩⟩
end
end SupX
namespace L2
open PySem PySem.Spec PyProof.Rows
theorem relO_num {v : V} {v' : Value} (r : RelV v v') (f : Str) : RelO (List.lookup f [(("number" : Str), v)]) (if f = "number" then some v' else none) := by
  by_cases hw : f = "number"
  · subst hw
    rw [if_pos rfl]
    have q : List.lookup ("number" : Str) [(("number" : Str), v)] = some v := by simp [List.lookup]
    rw [q]
    exact r
  · rw [if_neg hw]
    have qw : (f == ("number" : Str)) = false := by simpa using hw
    have q2 : List.lookup f [(("number" : Str), v)] = none := by simp [List.lookup, qw]
    rw [q2]
    trivial
section
variable {X : Cx} {x : Str} {C fI : Addr}
/-- C(e), such an error -/
def tMkSup (C : Addr) (ta : TA) : L2.St → Hp → XK → Prop := fun σ H Q => ta σ H fun vs H1 => ∃ v, vs = [v] ∧ ∀ d, H1 d = none → Q (.ref C) (some d) (upd H1 d (.xd [(("number" : Str), v)]))
theorem pmk_sup {a : Expr} {ta : TA} {p pos : Pos} {k : Nat} (T : SupX.SupTxt X.prog X.K X.mg x C fI) (hr : Room k X.A) (ha : PA X [a] ta) (hg : Gl X x := by rfl) (hdb : (x == ("__debug__" : Str)) = false := by decide)
    (he : starEach (a :: []) X.env = (false, eval a X.env) :: starEach [] X.env := by rfl) (hpl : (backTo pos (starEach [] X.env)).any (·.1) = false := by rfl) :
    PMk X (.Call (.Name x p) [a] [] pos) (tMkSup C ta) := by
  intro pins s σ H Q I h
  refine wpAny_Call_Name_kw (ld_glob I hg T.gC ?_ hdb)
  refine PySem.W.callWith_K (h₀ := X.base) I.ok.mod.kin T.kC (thn (ha.run pos pins s σ H _ I h) fun us s1 hh => ?_) he hpl
  obtain ⟨vs, H1, I1, r1, v, ev, q1⟩ := hh
  subst ev
  refine ⟨I1.kIn, ?_⟩
  cases r1 with
  | cons rv rn =>
    rename_i v' us'
    cases rn
    show wpAny _ _ (call (.ref C) [v']) _ _ _
    have hlim := I1.nolimit
    obtain ⟨mb, hB, hmb⟩ := I1.ok.mod.blt
    have hG := I1.ok.mod.glob.keeps I1.bk
    have hB := hB.keeps I1.bk
    have hsup : mb "super" = some (.type "super") := (hmb "super" (by decide)).trans (by decide +kernel)
    obtain ⟨hp, g, dr, tk, os⟩ := s1
    refine wpAny_call (SupX.sup_made (s := ⟨hp, g, dr, tk, os⟩) T I1.kIn hlim hG hB hsup (by have := hr.dp; omega) fun h' tk' e d M => ?_)
    show MkP X pins σ Q (.ref e) ⟨h', g, dr, tk', os⟩
    obtain ⟨oe, fv, hoe, hc, hd, hdat, h1⟩ := M.obj
    obtain ⟨G', g1, g2⟩ := restrict h' fun b => decide (b ≠ e)
    have gk : ∀ b, b ≠ e → G'.get? b = h'.get? b := fun b hb => g1 b (decide_eq_true hb)
    have ge : G'.get? e = none := g2 e (by simp)
    have old : ∀ b o, hp.get? b = some o → G'.get? b = some o := fun b o q => (gk b (Nat.ne_of_lt (Nat.lt_of_lt_of_le (Heap.lt_size q) M.new))).trans (M.keep b o q)
    have ob : ObjOk X.prog X.w (upd H1 d (.xd [(("number" : Str), v)])) G' d (.xd [(("number" : Str), v)]) := ⟨_, M.ns.at (fun o q => (gk d M.dne).trans q), fun f => relO_num rv f⟩
    have J : Inv X pins σ (upd H1 d (.xd [(("number" : Str), v)])) ⟨G', g, dr, tk', os⟩ := I1.laid (t' := tk') old M.dbig ob
    refine ⟨e, oe, fv, ⟨G', g, dr, tk', os⟩, _, .ref C, some d, rfl, J, fun b o q => ?_, ge, hoe, ⟨hc, hd⟩, hdat, h1, ?_, rfl, I1.bare, raises_own T.exC T.tyC, q1 d (I1.hok.fresh M.dbig)⟩
    · by_cases hb : b = e
      · have q' : G'.get? b = some o := q
        rw [hb, ge] at q'; cases q'
      · exact (gk b hb).symm.trans q
    · rw [upd_ne (Ne.symm M.dne)]
      exact I1.hok.fresh M.new
end
end L2

set_option Elab.async false
set_option linter.all false
set_option maxRecDepth 100000
set_option maxHeartbeats 4000000
/-! try: .. with several clauses «except C as n», n one and the same name; a raise of the errors of Bx; their field read in a suite. -/
namespace L2
open PySem PySem.Spec PyProof.Rows
/-- behind a suite with a name: the name's slot is empty again -/
def endsAs (D : Ends) (i : Nat) : Ends :=
  { nx := fun τ G => D.nx (τ.set i none) G, rt := D.rt, bk := fun τ G => D.bk (τ.set i none) G, ct := fun τ G => D.ct (τ.set i none) G }
/-- what the clauses wish of an error of the body, one after the other; slot i is the name's -/
def wMas (K : PySem.W.Frag) (i : Nat) (Wout : WX) (D : Ends) : List (Value × (Addr → Value → Option Addr → TS)) → WX
  | [] => Wout
  | (c, ts) :: r => fun cls d τ G => ∃ b, PySem.W.exmOne K cls c = some b ∧
      (b = true → ∀ a, G a = none → ts a cls d (endsAs D i) (τ.set i (some (.ref a))) G) ∧ (b = false → wMas K i Wout D r cls d τ G)
inductive HdsAs (X : Cx) (n : Str) : List ExceptHandler → List (Value × (Addr → Value → Option Addr → TS)) → Prop
  | nil : HdsAs X n [] []
  | cons {x : Str} {c : Value} {ts : Addr → Value → Option Addr → TS} {first : Stmt} {suite : List Stmt} {np hpos : Pos} {more : List ExceptHandler} {l : List (Value × (Addr → Value → Option Addr → TS))}
      (named : Names X x c)
      (body : ∀ (a : Addr) (oe : Obj) (cls : Value) (d : Option Addr) (pn : List (Addr × Obj)), Zc cls d oe → (∃ vs, oe.data = .fields vs) → PSs (X.suite a ((a, oe) :: pn)) (first :: suite) (ts a cls d))
      (rest : HdsAs X n more l) : HdsAs X n (.ExceptHandler (some (.Name x np)) (some n) (first :: suite) hpos :: more) ((c, ts) :: l)
section
variable {X : Cx} {n : Str} {i : Nat} {body : List Stmt} {one : ExceptHandler} {more : List ExceptHandler} {l : List (Value × (Addr → Value → Option Addr → TS))} {pos : Pos} {tb : WX → TS} {Wout : WX}
theorem ps_try_mas (hst : X.stack = X.env :: X.outer) (hfr : X.env.frame = some X.env.locals) (nd : X.N.Nodup) (hi : X.N[i]? = some n) (hln : X.env.kindOf n = some .local) (tk : Takes X Wout)
    (hbody : ∀ (W : WX) (pn : List (Addr × Obj)) (xe : Value → Shared → Prop), Takes (X.tr pn xe) W → PassesOwn (model X.prog X.w) X.A X.env xe → PSs (X.tr pn xe) body (tb W))
    (hh : HdsAs X n (one :: more) l) : PS X (.Try body (one :: more) [] [] pos) (fun D τ G => tb (wMas X.K i Wout D l) D τ G) := by
  refine ⟨fun pins s τ G D I w0 => wpAny_Try_except ?_⟩
  have ok := I.ok
  have hframes : X.A.frames = some (X.env :: X.outer) := by rw [ok.frames, hst]
  have hloc : Loc X.env.scope n := .inl hln
  have ran := (hbody (wMas X.K i Wout D l) (X.pn ++ pins)
    (fun er t1 => wpAny (model X.prog X.w) X.A (noteFrame er X.env) (fun _ t2 => wpAny (model X.prog X.w) X.A (setFlight er none) (fun _ t3 => wpAny (model X.prog X.w) X.A (handleBy er X.env (one :: more)) (SP X pins D) X.xe t3) X.xe t2) X.xe t1)
    (fun u s' xx => ?_) PassesOwn.looking).run [] s τ G D (I.toTry _) w0
  · refine wpAny_mono ran (fun fl t1 hsp => ?_) fun er t1 z => z
    cases fl with
    | next => exact let ⟨τ', G', J, q⟩ := hsp; wpAny_execs_nil ⟨τ', G', J.ofTry ok, q⟩
    | brk => exact let ⟨τ', G', J, q⟩ := hsp; ⟨τ', G', J.ofTry ok, q⟩
    | cont => exact let ⟨τ', G', J, q⟩ := hsp; ⟨τ', G', J.ofTry ok, q⟩
    | ret u => exact let ⟨v, τ', G', J, r, q⟩ := hsp; ⟨v, τ', G', J.ofTry ok, r, q⟩
  · obtain ⟨a, Bs, sI, pins', τ', G', cls, d, rfl, J', nb, up, sky, na, os, ag, wish⟩ := xx
    have J : Inv X pins τ' G' sI := J'.ofTry ok
    have sky2 : Sky Bs (X.env :: X.outer) a (Zc cls d) X.env.locals s'.heap := by rw [← hst]; exact sky
    show wpAny _ X.A (noteFrame (.ref a) X.env) _ _ _
    refine Sky.land Zc.steady hframes hfr sky2 fun h3 fl3 up3 => ?_
    have J3 : Inv X pins τ' G' { s' with heap := h3 } := J.landed nb fl3.1 (up.trans up3) os ag
    obtain ⟨oe3, vs3, at3, z3, dat3⟩ := fl3.there
    have out : a ∉ frs (X.env :: X.outer) := fun hm => by
      obtain ⟨_, o', e', no⟩ := fl3.2.2.1.mem hm
      rw [at3] at e'; cases e'
      exact no _ dat3
    have outL : a ≠ X.env.locals := fun z => out (List.mem_filterMap.mpr ⟨X.env, List.mem_cons_self, by rw [hfr, z]⟩)
    have outF : a ∉ X.fs := fun hm => by
      obtain ⟨en, hen, q⟩ := List.mem_filterMap.mp hm
      exact out (List.mem_filterMap.mpr ⟨en, List.mem_cons_of_mem _ hen, q⟩)
    have S3 := J3.suite at3 dat3 na outL outF
    have walk : ∀ {hs : List ExceptHandler} {ls : List (Value × (Addr → Value → Option Addr → TS))}, HdsAs X n hs ls → wMas X.K i Wout D ls cls d τ' G' →
        wpAny (model X.prog X.w) X.A (handleBy (.ref a) X.env hs) (SP X pins D) X.xe { s' with heap := h3 } := by
      intro hs ls hk
      induction hk with
      | nil =>
        intro wish
        refine wpAny_handleBy_nil ?_
        obtain ⟨_, _, _, oe, vs, T, oT, ts', at', _, dat', at1, _⟩ := id fl3
        have off : wpAny (model X.prog X.w) X.A (setFlight (.ref a) X.env.frame) (fun _ t4 => wpAny (model X.prog X.w) X.A (throw (.ref a) : Sem Flow) (SP X pins D) X.xe t4) X.xe { s' with heap := h3 } := by
          rw [hfr]
          exact HandSPX.setFlight_upZ fl3 fun h4 hi4 up4 => wpAny_throw (tk _ _ ⟨a, Bs, sI, pins, τ', G', cls, d, rfl, J, nb, (up.trans up3).trans up4, .inr (.inr (by rw [hst]; exact hi4)), na, os, ag, wish⟩)
        unfold PySem.passOn
        refine wpAny_bind (wpAny_field at' dat' at1 ?_)
        rw [if_neg (show ¬ ((Value.ref T == Value.none) = true) by simp)]
        first
          | exact wpAny_bind (wpAny_pure (wpAny_bind off))
          | exact wpAny_bind off
      | @cons x c ts fs suite np hpos hs2 l2 named hsuite rest ih =>
        intro wish
        obtain ⟨b, hb1, yes, no⟩ := wish
        refine wpAny_handleBy_cons (codeAny_handlers_test ?_) (by intro q; cases q)
        have lookT : PySem.W.Looks (model X.prog X.w) h3 (typeOf (.ref a)) cls := fun A Q E t k q => wpAny_typeOf_ref (k _ _ at3) (by rw [z3.1]; exact q)
        have lookM := PySem.W.exm_one (M := model X.prog X.w) J3.kIn lookT hb1
        have asked : ∀ {Q : Value → Shared → Prop} {E : Value → Shared → Prop}, Q c { s' with heap := h3 } → wpAny (model X.prog X.w) (X.A.mark (some (.ref a))) (eval (.Name x np) X.env) Q E { s' with heap := h3 } := fun {Q E} q => by
          obtain ⟨hg, hdbg, hm | ⟨hm, hv, hnn⟩⟩ := named
          · exact ld_glob (X := X.suite a ((a, oe3) :: (X.pn ++ pins))) S3 hg hm q hdbg
          · exact ld_blt (X := X.suite a ((a, oe3) :: (X.pn ++ pins))) S3 hg hm hv q hnn hdbg
        refine asked (lookM.here ?_)
        cases b with
        | false => exact ih (no rfl)
        | true =>
          refine codeAny_handlers_suite_as (HandSPX.lands_againZ fl3 fun h4 fl4 up4 => ?_)
          have J4 : Inv X pins τ' G' { s' with heap := h4 } := J.landed nb fl4.1 ((up.trans up3).trans up4) os ag
          obtain ⟨oe4, vs4, at4, z4, dat4⟩ := fl4.there
          have S4 := J4.suite at4 dat4 na outL outF
          refine store_ok (X := X.suite a ((a, oe4) :: (X.pn ++ pins))) (v := .ref a) S4 nd hi hloc rfl (fun t5 S5 => ?_) (.inr hln)
          have run := (hsuite a oe4 cls d (X.pn ++ pins) z4 ⟨_, dat4⟩).run [] t5 _ G' _ S5 (yes rfl a na)
          refine wpAny_mono run (fun fl t6 hsp => ?_) fun _ _ z => z.elim
          have fin : ∀ {τ6 : St} {G6 : Hp} {Q : Shared → Prop}, Inv (X.suite a ((a, oe4) :: (X.pn ++ pins))) [] τ6 G6 t6 → (∀ t7, Inv X pins (τ6.set i none) G6 t7 → Q t7) →
              wpAny (model X.prog X.w) X.A (do bindName X.env n .none; unbindBehindTheSuite X.env n hpos) (fun _ t7 => Q t7) X.xe t6 := fun {τ6 G6 Q} S6 hq => gone_ok (S6.unsuite ok) nd hi hln hq
          cases fl with
          | next => exact let ⟨_, _, S6, q6⟩ := hsp; fin S6 fun t7 J7 => ⟨_, _, J7, q6⟩
          | brk => exact let ⟨_, _, S6, q6⟩ := hsp; fin S6 fun t7 J7 => ⟨_, _, J7, q6⟩
          | cont => exact let ⟨_, _, S6, q6⟩ := hsp; fin S6 fun t7 J7 => ⟨_, _, J7, q6⟩
          | ret u => exact let ⟨_, _, _, S6, r6, q6⟩ := hsp; fin S6 fun t7 J7 => ⟨_, _, _, J7, r6, q6⟩
    exact walk hh wish
end
/-! ### raise C(e) -/
section
variable {X : Cx} {x : Str} {C fI : Addr}
def tRaiseSup (C : Addr) (W : WX) (ta : TA) : TS := fun _ τ G => tMkSup C ta τ G fun cls d G' => W cls d τ G'
theorem ps_raiseSup {a : Expr} {ta : TA} {W : WX} {p pos pos2 : Pos} {k : Nat} (hc : X.calm = true) (T : SupX.SupTxt X.prog X.K X.mg x C fI) (hr : Room k X.A) (tk : Takes X W) (ha : PA X [a] ta) (hg : Gl X x := by rfl) (hdb : (x == ("__debug__" : Str)) = false := by decide)
    (he : starEach (a :: []) X.env = (false, eval a X.env) :: starEach [] X.env := by rfl) (hpl : (backTo pos (starEach [] X.env)).any (·.1) = false := by rfl) :
    PS X (.Raise (some (.Call (.Name x p) [a] [] pos)) none pos2) (tRaiseSup C W ta) := ps_raise hc tk (pmk_sup T hr ha hg hdb he hpl)
end
end L2
namespace G3
open PySem PySem.Spec PyProof.Rows L2
/-- the same of a def that may raise -/
theorem has_ofX {P : Program} {w : World} {K : PySem.W.Frag} {mg : Str → Option Value} {base : Heap} {k : Nat} {x nm : Str} {ps : List Str} {sp : Sp} {st : Stmt} {N : List Str} (D : DefAt K mg x nm st) (S : FnScope N ps (defScope st))
    (hb : ∀ (kV doc pm : Value) (an : Option Addr) (cdv ct : Value) (us : List Value), us.length = ps.length → bindArgs (PySem.W.fnOf nm nm (defArgs st) (defBody st) (defScope st) .none kV doc pm an cdv ct) ⟨us, []⟩ = pure (ps.zip us))
    (len : ∀ vs H Q E, sp vs H Q E → vs.length = ps.length)
    (hbody : ∀ (f : Addr) (cdv : Value) (A : Around) (outer : List Env) (s : Shared) (H : Hp) (vs : List V) (Q : VK) (E : XK), Room k (A.deeper (envOfC nm (defScope st) s.heap.objs.size f cdv)) → sp vs H Q E →
      ∃ t, PSs (cxOf (L2.CX P w) P w K mg base N nm (defScope st) f cdv A outer s H E) (defBody st) t ∧ t { nx := fun _ H' => Q .non H', rt := Q } (start N vs) H) : Has P w K mg base (L2.CX P w) (k + 1) x ps sp := by
  obtain ⟨f, fd, F, m⟩ := D
  exact ⟨f, fd, F.okX S len (fun cdv A outer s H vs Q E hr hs => hbody f cdv A outer s H vs Q E hr hs), m, F.kp, F.binds hb⟩
/-- a call of a def that may raise, E σ what is wanted of the error -/
theorem pe_hS {X : Cx} {CX : CXT} {k j : Nat} {x : Str} {ps : List Str} {sp : Sp} {E : L2.St → XK} {p pos : Pos} {e : Expr} {es : List Expr} {t : TA} (h : Has X.prog X.w X.K X.mg X.base CX k x ps sp) (hr : Room j X.A) (hx : ∀ σ, PassesAt CX X σ (E σ))
    (ha : PA X (e :: es) t) (hk : k ≤ j := by first | decide | omega) (hg : Gl X x := by rfl) (hdb : (x == ("__debug__" : Str)) = false := by decide) (he : starEach (e :: es) X.env = (false, eval e X.env) :: starEach es X.env := by rfl)
    (hpl : (backTo pos (starEach es X.env)).any (·.1) = false := by rfl) : PE X (.Call (.Name x p) (e :: es) [] pos) (tCallS sp E t) := by
  obtain ⟨f, fd, F, m, kp, b⟩ := h
  exact pe_callS F (hr.mono hk) hg m kp b hx ha hdb he hpl
end G3

set_option Elab.async false
set_option linter.all false
set_option maxRecDepth 100000
set_option maxHeartbeats 4000000
/-! Rows that are lists or tuples: walked, walked with their numbers; a < b < c < d. -/
namespace G3
open PySem PySem.Spec PyProof.Rows L2
/-! ### for x in row -/
def iRow (K : PySem.W.Frag) (tl : TE) : TI := fun σ H R => tl σ H fun x H1 => ∃ a, x = .ref a ∧ (((∃ xs, SqL K H1 a xs) ∧ R (Itl K a) H1) ∨ ((∃ xs, SqT K H1 a xs) ∧ R (Itt K a) H1))
theorem pi_row {X : Cx} {K : PySem.W.Frag} (hK : X.K = K) {tg l : Expr} {tl : TE} (hl : PE X l tl) : PI X tg l (iRow K tl) := by
  subst hK
  refine ⟨fun pins s σ H R I h => thn (hl.run pins s σ H _ I h) fun v s1 ⟨x, H1, I1, r1, a, ex, q⟩ => ?_⟩
  subst ex
  obtain rfl : v = Value.ref a := r1
  have own : ∀ b ∈ [s1.heap.objs.size], FpOk X pins H1 b := fun b hb => by
    rw [List.mem_singleton.mp hb]
    exact I1.fpOk (Nat.le_refl _) (I1.hok.fresh (Nat.le_refl _))
  rcases q with ⟨⟨xs, hq⟩, q⟩ | ⟨⟨xs, hq⟩, q⟩
  · obtain ⟨its, rv, p, hz⟩ := I1.list hq
    exact wpAny_pyIter_list p.isList ⟨_, [s1.heap.objs.size], _, _, H1, rfl, I1.kept (t' := s1.toks) fun b o z => Heap.get?_push_of_some _ z, turn_list a _, ⟨_, Heap.get?_push_size _ rfl, rfl, rfl⟩, own, q⟩
  · obtain ⟨its, rv, p, hz⟩ := I1.tuple hq
    exact wpAny_pyIter_tuple (show s1.heap.IsTuple a its.toArray from p) ⟨_, [s1.heap.objs.size], _, _, H1, rfl, I1.kept (t' := s1.toks) fun b o z => Heap.get?_push_of_some _ z, turn_tuple a _, ⟨_, Heap.get?_push_size _ rfl, rfl, rfl⟩, own, q⟩
theorem seqL_at {K : PySem.W.Frag} {H H' : Hp} {a : Addr} {xs : List V} (k : ∀ o, H a = some o → H' a = some o) (h : SqL K H a xs) : SqL K H' a xs := by
  rcases h with (h | ⟨o, h⟩) | h
  · exact .inl (.inl (k _ h))
  · exact .inl (.inr ⟨o, k _ h⟩)
  · exact .inr h
theorem seqT_at {K : PySem.W.Frag} {H H' : Hp} {a : Addr} {xs : List V} (k : ∀ o, H a = some o → H' a = some o) (h : SqT K H a xs) : SqT K H' a xs := by
  rcases h with (h | ⟨o, h⟩) | h
  · exact .inl (.inl (k _ h))
  · exact .inl (.inr ⟨o, k _ h⟩)
  · exact .inr h
/-- the walk of a row, list or tuple, that the loop leaves as it is -/
theorem for_row {K : PySem.W.Frag} {a : Addr} {xs : List V} {g : TG} {tb : TS} {D : Ends} {σ : L2.St} {H0 H : Hp} (hr : SqL K H0 a xs ∨ SqT K H0 a xs) (Pv : Nat → L2.St → Hp → Prop) (h0 : Pv 0 σ H)
    (keep : ∀ i σ' H', Pv i σ' H' → ∀ o, H0 a = some o → H' a = some o)
    (turn : ∀ i x σ' H', xs[i]? = some x → Pv i σ' H' → g x σ' H' fun σ2 H2 => tb { D with nx := Pv (i + 1), ct := Pv (i + 1), bk := D.nx } σ2 H2) (after : ∀ σ' H', Pv xs.length σ' H' → D.nx σ' H') :
    ((∃ ys, SqL K H a ys) ∧ (∃ W : Nat → Nat → L2.St → Hp → Prop, (∃ m, W 0 m σ H) ∧ ∀ i m σ H, W i m σ H → ((Itl K a).stop i H ∧ D.nx σ H) ∨ ((Itl K a).go i H ∧ ∃ N : L2.St → Hp → Prop, (∀ σ' H', N σ' H' → ∃ m', m' < m ∧ W (i + 1) m' σ' H') ∧ ∀ x H', (Itl K a).yld i H x H' → g x σ H' fun σ2 H2 => tb { D with nx := N, ct := N, bk := D.nx } σ2 H2))) ∨
    ((∃ ys, SqT K H a ys) ∧ (∃ W : Nat → Nat → L2.St → Hp → Prop, (∃ m, W 0 m σ H) ∧ ∀ i m σ H, W i m σ H → ((Itt K a).stop i H ∧ D.nx σ H) ∨ ((Itt K a).go i H ∧ ∃ N : L2.St → Hp → Prop, (∀ σ' H', N σ' H' → ∃ m', m' < m ∧ W (i + 1) m' σ' H') ∧ ∀ x H', (Itt K a).yld i H x H' → g x σ H' fun σ2 H2 => tb { D with nx := N, ct := N, bk := D.nx } σ2 H2))) := by
  rcases hr with h | h
  · exact .inl ⟨⟨_, seqL_at (keep 0 _ _ h0) h⟩, for_list (K := K) (a := a) (xs := xs) Pv h0 (fun i σ' H' _ p => seqL_at (keep i σ' H' p) h) turn after⟩
  · exact .inr ⟨⟨_, seqT_at (keep 0 _ _ h0) h⟩, for_tup (K := K) (a := a) (xs := xs) Pv h0 (fun i σ' H' _ p => seqT_at (keep i σ' H' p) h) turn after⟩

/-! ### for i, x in enumerate(row) -/
/-- the tuple at a as it stands at each turn, each item in a new pair with its number -/
def Ieu (K : PySem.W.Frag) (a : Addr) : It where
  go := fun i H => ∃ (xs : List V) (x : V), SqT K H a xs ∧ xs[i]? = some x
  yld := fun i H v H' => ∃ T x, v = .ref T ∧ H T = none ∧ H' = upd H T (.tup [.int (i : Nat), x]) ∧ ∀ xs, SqT K H a xs → xs[i]? = some x
  stop := fun i H => ∃ xs : List V, SqT K H a xs ∧ xs.length ≤ i
theorem turn_enumU {P : Program} {w : World} {K : PySem.W.Frag} {elts : List Expr} {kk : Nat} {tpos : Pos} (a e it : Addr) :
    Turn P w K (.Tuple elts kk tpos) (Ieu K a) [e, it] e (fun i h => (∃ old, IsEnum h e it ((i : Nat) : Int) old) ∧ h.IsTupleIter it a i ∧ e ≠ it) where
  mem := by simp
  obj := fun i h st b hb => by
    obtain ⟨⟨old, he⟩, ⟨o, ho, hc, hd⟩, _⟩ := st
    rcases (show b = e ∨ b = it by simpa using hb) with z | z
    · exact z ▸ ⟨_, he, fun v q => nomatch q⟩
    · exact z ▸ ⟨o, ho, fun v q => by rw [hd] at q; cases q⟩
  keep := fun i h h' st k => let ⟨⟨old, he⟩, hi, hne⟩ := st; ⟨⟨old, k e (by simp) _ he⟩, hi.at fun o q => k it (by simp) o q, hne⟩
  item := by
    intro X hP hw hK hc i pins s σ H E I hf st hg
    subst hP hw hK
    obtain ⟨⟨old, he⟩, hit, hne⟩ := st
    obtain ⟨xs, x, hq, hx⟩ := hg
    obtain ⟨its, rv, p, hz⟩ := I.tuple hq
    obtain ⟨u, hu, ru⟩ := rv.get hx
    have hel := Heap.lt_size he
    have hil : it < s.heap.objs.size := let ⟨_, q, _⟩ := hit; Heap.lt_size q
    have nai : a ≠ it := fun z => by
      obtain ⟨o1, h1, c1, _⟩ := hit
      obtain ⟨o2, h2, c2, _⟩ := p
      rw [z, h1] at h2
      cases h2
      rw [c1] at c2
      exact absurd c2 (by decide)
    have nae : e ≠ a := fun z => by
      obtain ⟨o2, h2, c2, _⟩ := p
      rw [← z, he] at h2
      cases h2
      exact absurd (show Value.type "enumerate" = Value.type "tuple" from c2) (by decide)
    have hlt : i < its.toArray.size := by
      have := (List.getElem?_eq_some_iff.mp hu).1
      simpa using this
    refine wpAny_pyNext_enum_itemD (Draws.tuple (w := X.w) (A := X.A.in1) (I.ok.hd hc) it a nai its.toArray) he ⟨hit, (show s.heap.IsTuple a its.toArray from p)⟩ hlt hne (by simp [hne, nae]) fun y h' tk hy ho hst hT hsz hk => ?_
    have ey : u = y := by
      have z : its[i]? = some y := by simpa using hy
      exact Option.some.inj (hu.symm.trans z)
    subst ey
    refine ⟨_, rfl, wpAny_letOwnedTupleGo_enum (s := { s with heap := h', toks := tk + 1 }) ho fun h'' he' sb => ?_⟩
    have hT2 : h''.get? s.heap.objs.size = some { cls := .type "tuple", data := .seq #[.int i tk, u] } := (sb.2 _ (Nat.ne_of_gt hel)).trans hT
    have laid : ObjOk X.prog X.w (upd H s.heap.objs.size (.tup [.int (i : Nat), x])) h'' s.heap.objs.size (.tup [.int (i : Nat), x]) :=
      ⟨by show 2 ≤ sizeLine; decide, [.int i tk, u], .cons ⟨_, rfl⟩ (.cons ru .nil), ⟨_, hT2, rfl, _, rfl⟩⟩
    have I1 : Inv X pins σ (upd H s.heap.objs.size (.tup [.int (i : Nat), x])) { s with heap := h'', toks := tk + 1 } :=
      I.turnedNew (ch := [e, it]) (fun b ob hb q => (sb.2 b (fun z => hb (by simp [z]))).trans (hk b ob (fun z => hb (by simp [z])) (fun z => hb (by simp [z])) q)) hf (Nat.le_refl _) laid
    refine ⟨.ref s.heap.objs.size, _, I1, rfl, ⟨_, x, rfl, I.hok.fresh (Nat.le_refl _), rfl, fun ys hy => by rw [I.tuple_inj hy hq]; exact hx⟩, ⟨⟨u, ?_⟩, hst.1.at fun o q => (sb.2 it (Ne.symm hne)).trans q, hne⟩, fun b hb => ?_⟩
    · have e1 : ((i + 1 : Nat) : Int) = (i : Int) + 1 := by omega
      exact e1 ▸ he'
    · have hb' : b < s.heap.objs.size := by
        rcases (show b = e ∨ b = it by simpa using hb) with z | z
        · exact z ▸ hel
        · exact z ▸ hil
      rw [upd_ne (Nat.ne_of_lt hb')]
      exact (hf b hb).1
  done := by
    intro X hP hw hK hc i pins s σ H E I hf st hg
    subst hP hw hK
    obtain ⟨⟨old, he⟩, hit, hne⟩ := st
    obtain ⟨xs, hq, hx⟩ := hg
    obtain ⟨its, rv, p, hz⟩ := I.tuple hq
    obtain ⟨f0, f1, f2, f3, f4, f5⟩ := hf it (by simp)
    have hl := rv.length
    have hT : s.TypeIs (.ref e) "enumerate" := ⟨_, he, rfl⟩
    unfold pyNext
    refine wpAny_bind (wpAny_attempt (wpAny_callSpecial?_slot (name := Str.ofString "__next__") hT F.slot_enumerate_next (wpAny_call_entry F.slot_enumerate_next hT F.entry_enumerate_next ?_ (F.args_enumerate_next_1 _))))
    show wpAny _ _ (field (.ref e) 2 >>= _) _ _ _
    refine wpAny_bind (wpAny_field he rfl (x := .ref it) rfl (wpAny_bind (wpAny_nextOf_tuple_end (A := X.A.in1) (I.ok.hd hc) hit (show s.heap.IsTuple a its.toArray from p) (by simp; omega) fun h' x' he' hx' => ?_)))
    obtain ⟨o, ho, hcc⟩ := hx'
    refine wpAny_bind (wpAny_isInstance (T := "StopIteration") (b := true) ⟨o, ho, hcc⟩ isSubtype_stop (wpAny_pure ⟨rfl, I.turned (t' := s.toks) (fun b o hb q => he' b o hb q) f0 f1 f3 f4 f5⟩))
  self := fun A i s Q E st h => let ⟨⟨_, he⟩, _⟩ := st; wpAny_pyIter_enum he h

end G3
namespace PySem
open Sem (wp)
theorem meets_enumerate_new1 {v : Value} {o : Obj} {Hh : Heap → Prop} (B : Begins v o Hh) :
    Meets (Builtin.«enumerate.__new__» ⟨[.type "enumerate", v], []⟩) (fun _ R s => Hh s.heap ∧
      R (.ok (.ret (.ref (s.heap.push o).objs.size))) { s with heap := (s.heap.push o).push { cls := .type "enumerate", data := .fields #[.none, .bool false, .ref s.heap.objs.size, rawInt 0, .none, .none] } }) :=
  .of_wp fun prog w A R s h => by
    obtain ⟨hp, g, d, tk, os⟩ := s; obtain ⟨h1, h⟩ := h
    have hsub := sub_enumerate
    have q1 : ∀ {A' : Around} {E : Value → Shared → Prop} {Q : Value → Shared → Prop}, Q (.ref hp.objs.size) ⟨hp.push o, g, d, tk, os⟩ → wpAny (model prog w) A' (pyIter v) Q E ⟨hp, g, d, tk, os⟩ :=
      fun q => B.iter prog w _ _ ⟨hp, g, d, tk, os⟩ _ h1 q
    wp_walk using q1
    refine wpAny_stack_any fun st => wpAny_pure ?_
    split
    · rename_i c _ _ _ _ _
      cases (c == Value.type "enumerate")
      · wp_walk using q1
        exact ⟨_, rfl, h⟩
      · wp_walk using q1
        exact ⟨_, rfl, h⟩
    · wp_walk using q1
      exact ⟨_, rfl, h⟩
section
variable {prog : Program} {w : World} {A : Around} {E : Value → Shared → Prop} {s : Shared}
theorem enum_begins1 {v : Value} {o : Obj} {Hh : Heap → Prop} {Q : Value → Shared → Prop} (B : Begins v o Hh) (h1 : Hh s.heap)
    (h : ∀ h', IsEnum h' (s.heap.objs.size + 1) s.heap.objs.size 0 .none → h'.get? s.heap.objs.size = some o → h'.objs.size = s.heap.objs.size + 2 →
      (∀ b o, s.heap.get? b = some o → h'.get? b = some o) → Q (.ref (s.heap.objs.size + 1)) { s with heap := h' }) :
    wpAny (model prog w) A (call (.type "enumerate") [v]) Q E s := by
  refine callType_new F.called_enumerate (by decide) (F.typeCall_enumerate_1 _) (F.newCall_enumerate_1 _) (fun obj => F.args_object_init_2 obj _) F.entry_enumerate_new
    (meets_enumerate_new1 B) ⟨h1, ?_⟩
  have hz : (s.heap.push o).objs.size = s.heap.objs.size + 1 := Heap.size_push ..
  show _ ∧ _
  rw [hz]
  have he : IsEnum ((s.heap.push o).push { cls := .type "enumerate", data := .fields #[.none, .bool false, .ref s.heap.objs.size, rawInt 0, .none, .none] }) (s.heap.objs.size + 1) s.heap.objs.size 0 .none := by
    have := Heap.get?_push_size (s.heap.push o) (o := { cls := .type "enumerate", data := .fields #[.none, .bool false, .ref s.heap.objs.size, rawInt 0, .none, .none] }) rfl
    rw [hz] at this; exact this
  refine ⟨⟨_, he, rfl⟩, h _ he (Heap.get?_push_of_some _ (Heap.get?_push_size _ B.free)) (by rw [Heap.size_push, hz]) fun b o x => Heap.get?_push_of_some _ (Heap.get?_push_of_some _ x)⟩
end
end PySem
namespace G3
open PySem PySem.Spec PyProof.Rows L2
def iEnumR (K : PySem.W.Frag) (ta : TA) : TI := fun σ H R => ta σ H fun vs H1 => ∃ a, vs = [.ref a] ∧ (((∃ xs, SqL K H1 a xs) ∧ R (Ite K a) H1) ∨ ((∃ xs, SqT K H1 a xs) ∧ R (Ieu K a) H1))
theorem pi_enumR {X : Cx} {K : PySem.W.Frag} (hK : X.K = K) {e : Expr} {ta : TA} {p pos tpos : Pos} {elts : List Expr} {kk : Nat} (hg : Gl X "enumerate") (hm : X.mg "enumerate" = none) (ha : PA X [e] ta) (hs : starEach [e] X.env = [(false, eval e X.env)] := by rfl) :
    PI X (.Tuple elts kk tpos) (.Call (.Name "enumerate" p) [e] [] pos) (iEnumR K ta) := by
  subst hK
  refine ⟨fun pins s σ H R I h => ?_⟩
  refine Call_ (ld_blt I hg hm boot_enumerate (PyProof.Rows.callWith_type1 (thn (ha.run pos pins s σ H _ I h) fun us s1 ⟨vs, H1, I1, r1, q1⟩ => ?_) hs rfl))
  obtain ⟨a, ex, q⟩ := q1
  subst ex
  cases r1 with
  | cons r rr =>
    cases rr
    cases r
    have fresh : ∀ b ∈ [s1.heap.objs.size + 1, s1.heap.objs.size], FpOk X pins H1 b := fun b hb => by
      have e' : b = s1.heap.objs.size + 1 ∨ b = s1.heap.objs.size := by simpa using hb
      have hle : s1.heap.objs.size ≤ b := by
        rcases e' with z | z
        · rw [z]; exact Nat.le_add_right _ _
        · rw [z]; exact Nat.le_refl _
      exact I1.fpOk hle (I1.hok.fresh hle)
    rcases q with ⟨⟨xs, hq⟩, q⟩ | ⟨⟨xs, hq⟩, q⟩
    · obtain ⟨its, rv, p', hz⟩ := I1.list hq
      refine call_enumerate_list p'.isList fun h' he hit hsz hk => wpAny_pyIter_enum he ?_
      have I2 : Inv X pins σ H1 { s1 with heap := h' } := I1.kept (t' := s1.toks) hk
      exact ⟨s1.heap.objs.size + 1, [s1.heap.objs.size + 1, s1.heap.objs.size], _, _, H1, rfl, I2, turn_enum a (s1.heap.objs.size + 1) s1.heap.objs.size, ⟨⟨.none, he⟩, hit, Nat.succ_ne_self _⟩, fresh, q⟩
    · obtain ⟨its, rv, p', hz⟩ := I1.tuple hq
      refine enum_begins1 (begins_tuple a its.toArray) (show s1.heap.IsTuple a its.toArray from p') fun h' he hit hsz hk => wpAny_pyIter_enum he ?_
      have I2 : Inv X pins σ H1 { s1 with heap := h' } := I1.kept (t' := s1.toks) hk
      exact ⟨s1.heap.objs.size + 1, [s1.heap.objs.size + 1, s1.heap.objs.size], _, _, H1, rfl, I2, turn_enumU a (s1.heap.objs.size + 1) s1.heap.objs.size, ⟨⟨.none, he⟩, ⟨_, hit, rfl, rfl⟩, Nat.succ_ne_self _⟩, fresh, q⟩
/-- for i, x in enumerate(list) -/
theorem for_enL {K : PySem.W.Frag} {a : Addr} {xs : List V} {g : TG} {tb : TS} {D : Ends} {σ : L2.St} {H : Hp} (Pv : Nat → L2.St → Hp → Prop) (h0 : Pv 0 σ H) (hl : ∀ i σ H, i ≤ xs.length → Pv i σ H → SqL K H a xs)
    (hs : ∀ (i : Nat) x (T : Addr) σ H, xs[i]? = some x → Pv i σ H → H T = none → g (.ref T) σ (upd H T (.tup [.int (i : Nat), x])) fun σ2 H2 => tb { D with nx := Pv (i + 1), ct := Pv (i + 1), bk := D.nx } σ2 H2) (hd : ∀ σ H, Pv xs.length σ H → D.nx σ H) :
    ∃ W : Nat → Nat → L2.St → Hp → Prop, (∃ m, W 0 m σ H) ∧ ∀ i m σ H, W i m σ H →
      ((Ite K a).stop i H ∧ D.nx σ H) ∨ ((Ite K a).go i H ∧ ∃ N : L2.St → Hp → Prop, (∀ σ' H', N σ' H' → ∃ m', m' < m ∧ W (i + 1) m' σ' H') ∧ ∀ x H', (Ite K a).yld i H x H' → g x σ H' fun σ2 H2 => tb { D with nx := N, ct := N, bk := D.nx } σ2 H2) := by
  refine ⟨fun i m σ H => m = xs.length - i ∧ i ≤ xs.length ∧ Pv i σ H, ⟨xs.length, by simp, Nat.zero_le _, h0⟩, ?_⟩
  rintro i m σ H ⟨rfl, hi, p⟩
  have q := hl i σ H hi p
  by_cases hlt : i < xs.length
  · refine .inr ⟨⟨xs, xs[i], q, by simp [hlt]⟩, Pv (i + 1), fun σ' H' p' => ⟨xs.length - (i + 1), by omega, rfl, hlt, p'⟩, fun x H' y => ?_⟩
    obtain ⟨T, x, rfl, nT, rfl, y⟩ := y
    exact hs i x T σ _ (y xs q) p nT
  · have e : i = xs.length := by omega
    subst e
    exact .inl ⟨⟨xs, q, Nat.le_refl _⟩, hd σ H p⟩
theorem for_enT {K : PySem.W.Frag} {a : Addr} {xs : List V} {g : TG} {tb : TS} {D : Ends} {σ : L2.St} {H : Hp} (Pv : Nat → L2.St → Hp → Prop) (h0 : Pv 0 σ H) (hl : ∀ i σ H, i ≤ xs.length → Pv i σ H → SqT K H a xs)
    (hs : ∀ (i : Nat) x (T : Addr) σ H, xs[i]? = some x → Pv i σ H → H T = none → g (.ref T) σ (upd H T (.tup [.int (i : Nat), x])) fun σ2 H2 => tb { D with nx := Pv (i + 1), ct := Pv (i + 1), bk := D.nx } σ2 H2) (hd : ∀ σ H, Pv xs.length σ H → D.nx σ H) :
    ∃ W : Nat → Nat → L2.St → Hp → Prop, (∃ m, W 0 m σ H) ∧ ∀ i m σ H, W i m σ H →
      ((Ieu K a).stop i H ∧ D.nx σ H) ∨ ((Ieu K a).go i H ∧ ∃ N : L2.St → Hp → Prop, (∀ σ' H', N σ' H' → ∃ m', m' < m ∧ W (i + 1) m' σ' H') ∧ ∀ x H', (Ieu K a).yld i H x H' → g x σ H' fun σ2 H2 => tb { D with nx := N, ct := N, bk := D.nx } σ2 H2) := by
  refine ⟨fun i m σ H => m = xs.length - i ∧ i ≤ xs.length ∧ Pv i σ H, ⟨xs.length, by simp, Nat.zero_le _, h0⟩, ?_⟩
  rintro i m σ H ⟨rfl, hi, p⟩
  have q := hl i σ H hi p
  by_cases hlt : i < xs.length
  · refine .inr ⟨⟨xs, xs[i], q, by simp [hlt]⟩, Pv (i + 1), fun σ' H' p' => ⟨xs.length - (i + 1), by omega, rfl, hlt, p'⟩, fun x H' y => ?_⟩
    obtain ⟨T, x, rfl, nT, rfl, y⟩ := y
    exact hs i x T σ _ (y xs q) p nT
  · have e : i = xs.length := by omega
    subst e
    exact .inl ⟨⟨xs, q, Nat.le_refl _⟩, hd σ H p⟩
/-- for i, x in enumerate(row) -/
theorem for_enR {K : PySem.W.Frag} {a : Addr} {xs : List V} {g : TG} {tb : TS} {D : Ends} {σ : L2.St} {H0 H : Hp} (hr : SqL K H0 a xs ∨ SqT K H0 a xs) (Pv : Nat → L2.St → Hp → Prop) (h0 : Pv 0 σ H)
    (keep : ∀ i σ' H', Pv i σ' H' → ∀ o, H0 a = some o → H' a = some o)
    (hs : ∀ (i : Nat) x (T : Addr) σ H, xs[i]? = some x → Pv i σ H → H T = none → g (.ref T) σ (upd H T (.tup [.int (i : Nat), x])) fun σ2 H2 => tb { D with nx := Pv (i + 1), ct := Pv (i + 1), bk := D.nx } σ2 H2) (hd : ∀ σ H, Pv xs.length σ H → D.nx σ H) :
    ((∃ ys, SqL K H a ys) ∧ (∃ W : Nat → Nat → L2.St → Hp → Prop, (∃ m, W 0 m σ H) ∧ ∀ i m σ H, W i m σ H → ((Ite K a).stop i H ∧ D.nx σ H) ∨ ((Ite K a).go i H ∧ ∃ N : L2.St → Hp → Prop, (∀ σ' H', N σ' H' → ∃ m', m' < m ∧ W (i + 1) m' σ' H') ∧ ∀ x H', (Ite K a).yld i H x H' → g x σ H' fun σ2 H2 => tb { D with nx := N, ct := N, bk := D.nx } σ2 H2))) ∨
    ((∃ ys, SqT K H a ys) ∧ (∃ W : Nat → Nat → L2.St → Hp → Prop, (∃ m, W 0 m σ H) ∧ ∀ i m σ H, W i m σ H → ((Ieu K a).stop i H ∧ D.nx σ H) ∨ ((Ieu K a).go i H ∧ ∃ N : L2.St → Hp → Prop, (∀ σ' H', N σ' H' → ∃ m', m' < m ∧ W (i + 1) m' σ' H') ∧ ∀ x H', (Ieu K a).yld i H x H' → g x σ H' fun σ2 H2 => tb { D with nx := N, ct := N, bk := D.nx } σ2 H2))) := by
  rcases hr with h | h
  · exact .inl ⟨⟨_, seqL_at (keep 0 _ _ h0) h⟩, for_enL (K := K) (a := a) (xs := xs) Pv h0 (fun i σ' H' _ p => seqL_at (keep i σ' H' p) h) hs hd⟩
  · exact .inr ⟨⟨_, seqT_at (keep 0 _ _ h0) h⟩, for_enT (K := K) (a := a) (xs := xs) Pv h0 (fun i σ' H' _ p => seqT_at (keep i σ' H' p) h) hs hd⟩
/-! ### a op1 b op2 c op3 d -/
def tChain3 (r r' r'' : R2) (ta tb tc td : TE) : TE := fun σ H Q => ta σ H fun x H1 => tb σ H1 fun y H2 => r x y H2 fun z H3 => ∃ k, z = .bl k ∧
  (if k = true then tc σ H3 fun w' H4 => r' y w' H4 fun z' H5 => ∃ k', z' = .bl k' ∧ (if k' = true then td σ H5 fun w'' H6 => r'' w' w'' H6 Q else Q (.bl false) H5) else Q (.bl false) H3)
section
variable {X : Cx} {a b c d : Expr} {ta tb tc td : TE} {pos : Pos}
theorem pt_chain3 {op op' op'' : CmpOp} {r r' r'' : R2} (ho : OpR X (compareOp op) r) (ho' : OpR X (compareOp op') r') (ho'' : OpR X (compareOp op'') r'') (ha : PE X a ta) (hb : PE X b tb) (hc : PE X c tc) (hd : PE X d td)
    (hm : lastMarks [op, op', op''] [b, c, d] = false := by with_unfolding_all rfl) : PT X (.Compare a [op, op', op''] [b, c, d] pos) (tTest (tChain3 r r' r'' ta tb tc td)) := by
  refine ⟨fun pins s σ H Q I h => ?_⟩
  refine isTrue_chain (thn (ha.run pins s σ H _ I h) fun v s1 ⟨x, H1, I1, r1, q1⟩ => test_link (thn (hb.run pins s1 σ H1 _ I1 q1) fun u s2 ⟨y, H2, I2, r2, q2⟩ =>
    thn (ho pins s2 σ H2 x y v u _ I2 r1 r2 q2) fun d s3 ⟨z, H3, I3, r3, k, e, q3⟩ => ?_)) hm
  subst e
  cases r3
  refine wpAny_truthy_bool ?_
  cases k with
  | false =>
    obtain ⟨k', e', q'⟩ := q3
    cases e'
    exact ite_ff ⟨H3, I3, q'⟩
  | true =>
    refine ite_tt (test_link (thn (hc.run pins s3 σ H3 _ I3 q3) fun w' s4 ⟨z', H4, I4, r4, q4⟩ => thn (ho' pins s4 σ H4 y z' u w' _ I4 r2 r4 q4) fun d' s5 ⟨z2, H5, I5, r5, k2, e2, q5⟩ => ?_))
    subst e2
    cases r5
    refine wpAny_truthy_bool ?_
    cases k2 with
    | false =>
      obtain ⟨k', e', q'⟩ := q5
      cases e'
      exact ite_ff ⟨H5, I5, q'⟩
    | true =>
      refine ite_tt (test_last (thn (hd.run pins s5 σ H5 _ I5 q5) fun w3 s6 ⟨z3, H6, I6, r6, q6⟩ => thn (ho'' pins s6 σ H6 z' z3 w' w3 _ I6 r4 r6 q6) fun d3 s7 ⟨z4, H7, I7, r7, k3, e3, q7⟩ => ?_))
      subst e3
      cases r7
      exact wpAny_truthy_bool ⟨H7, I7, q7⟩
end
end G3

set_option Elab.async false
set_option linter.all false
set_option maxRecDepth 100000
set_option maxHeartbeats 4000000
/-! sorted(d.items()) of a dict of ints with int keys; classes. -/
namespace L2.DX
open PySem PySem.Spec PyProof.Rows
abbrev entI (e : Int × Int) : L2.Key × V := (Sum.inl e.1, V.int e.2)
section
variable {X : Cx}
def rItemsK : V → List V → Hp → VK → Prop := fun x xs H Q => ∃ (a : Addr) (kvs : List (L2.Key × V)), x = .ref a ∧ xs = [] ∧ H a = some (.dK kvs) ∧ ∀ p, H p = none → Q (.ref p) (upd H p (itemsO p a))
theorem mt_itemsK : MtR X "dict.items" rItemsK := by
  intro pins s σ H x xs v us Q I rx rxs h
  obtain ⟨a, kvs, rfl, rfl, ha, q⟩ := h
  cases rx
  cases rxs
  obtain ⟨z, hd, vs, kv, o, es, ep, ho, hx, hdat, _⟩ := dk_of I.hok ha
  refine DT.callItems (es := es) (ep := ep) hd ⟨o, ho, hx, hdat⟩ ?_
  have hf : H s.heap.objs.size = none := I.hok.fresh (Nat.le_refl _)
  exact ⟨.ref s.heap.objs.size, upd H s.heap.objs.size (itemsO s.heap.objs.size a), I.laid (t' := s.toks) (fun b u e => Heap.get?_push_of_some _ e) (Nat.le_refl _) (itemsO_ok (Heap.get?_push_size _ rfl)), rfl, q _ hf⟩
/-- keys and values are ints -/
def rSortItI : List V → Hp → VK → Prop := fun vs H Q => ∃ (p a : Addr) (ks : List (Int × Int)), vs = [.ref p] ∧ H p = some (itemsO p a) ∧ H a = some (.dK (ks.map entI)) ∧
  ∀ (H' : Hp) (l : Addr) (zs : List (Addr × Int × Int)), (∀ b o, H b = some o → H' b = some o) → H l = none → (zs.map (·.2)).Perm ks → (zs.map (·.2)).Pairwise (fun e f => e.1 ≤ f.1) → H' l = some (.lst (zs.map fun z => V.ref z.1)) →
    (∀ z ∈ zs, H z.1 = none ∧ H' z.1 = some (.tup [.int z.2.1, .int z.2.2])) → Q (.ref l) H'
theorem pairs_ents {P : Program} {w : World} : ∀ {es : List DictEntry} {ks : List (Int × Int)} {vs : List (L2.Key × Value)}, Pairs (mixKind P w) es vs → KV (ks.map entI) vs → ∀ (j : Nat) (e : DictEntry), es[j]? = some e →
    ∃ (x : Int × Int) (t u : Tok), ks[j]? = some x ∧ e.key = .int x.1 t ∧ e.val = .int x.2 u
  | [], _, _, _, _, j, e, h => nomatch h
  | e0 :: es, [], _, hp, hk, j, e, h => by cases hk; cases hp
  | e0 :: es, k :: ks, _, hp, hk, j, e, h => by
    cases hp with
    | cons h1 h2 hp =>
      cases hk with
      | cons r hk =>
        cases j with
        | zero =>
          obtain rfl := Option.some.inj h
          obtain ⟨r1, r2⟩ := r
          have r1 : Sum.inl k.1 = _ := r1
          rw [← r1] at h1
          obtain ⟨t, ht⟩ : ∃ t, e0.key = .int k.1 t := Value.isInt_shape h1
          obtain ⟨u, hu⟩ := r2
          exact ⟨k, t, u, rfl, ht, h2.trans hu⟩
        | succ j => exact pairs_ents hp hk j e h
def pairK (h : Heap) : Value → Int × Int
  | .ref b => match h.get? b with
    | some o => match o.data with
      | .seq its _ => match its.toList with
        | [.int x _, .int y _] => (x, y)
        | _ => (0, 0)
      | _ => (0, 0)
    | none => (0, 0)
  | _ => (0, 0)
theorem cr_sortedItemsI (hc : X.calm = true) : CallR X (.builtin "sorted") rSortItI := by
  intro pins s σ H xs us Q I r h
  obtain ⟨p, a, ks, rfl, hp, ha, q⟩ := h
  obtain rfl := Vals.ref1 r
  have view : s.heap.IsItemsView p a := (show ObjOk X.prog X.w H s.heap p (itemsO p a) from I.hok p _ hp).1
  obtain ⟨z, hd, vs, kv, o, es, ep, ho, hx, hdat, hks, hprs, hnd⟩ := dk_of I.hok ha
  have l1 : (ks.map entI).length = vs.length := Paired.length kv
  rw [List.length_map] at l1 z
  have l2 : es.toList.length = vs.length := hprs.length
  have l2 : es.size = vs.length := by rw [← l2]; simp
  have hh : X.A.handled = none := I.ok.hd hc
  refine DT.sortedI (es := es) (ep := ep) hh view ⟨o, ho, hx, hdat⟩ (by omega) fun h' tk as hk hlt hl hG => ?_
  have lak : as.length = ks.length := by omega
  have nd : as.Nodup := List.Pairwise.imp (fun h => Nat.ne_of_lt h) hG.rise
  have pr : ∀ (j : Nat) (b : Addr), as[j]? = some b → ∃ (e : Int × Int) (t u : Tok), ks[j]? = some e ∧ h'.get? b = some { cls := .type "tuple", data := .seq #[.int e.1 t, .int e.2 u] } := by
    intro j b hj
    obtain ⟨en, he, hg⟩ := hG.pairs j b hj
    obtain ⟨x, t, u, h1, h2, h3⟩ := pairs_ents hprs kv j en (by rw [Array.getElem?_toList]; exact he)
    rw [h2, h3] at hg
    exact ⟨x, t, u, h1, hg⟩
  have hob : (h'.push { cls := .type "list", data := .seq (as.map Value.ref).toArray }).get? h'.objs.size = some (seqObj "list" (as.map Value.ref).toArray 0) := Heap.get?_push_size _ rfl
  have kb : ∀ b o, s.heap.get? b = some o → (h'.push { cls := .type "list", data := .seq (as.map Value.ref).toArray }).get? b = some o := fun b o e => Heap.get?_push_of_some _ (hk b o e)
  have ne0 : ∀ b o, h'.get? b = some o → b ≠ h'.objs.size := fun b o e => Nat.ne_of_lt (Heap.lt_size e)
  generalize hh2 : h'.push { cls := .type "list", data := .seq (as.map Value.ref).toArray } = h2 at hob kb ⊢
  have ka : ∀ b o, h'.get? b = some o → h2.get? b = some o := fun b o e => by rw [← hh2]; exact Heap.get?_push_of_some _ e
  have at_ : ∀ v ∈ as.map Value.ref, ∃ (j : Nat) (b : Addr) (e : Int × Int), v = .ref b ∧ as[j]? = some b ∧ ks[j]? = some e ∧ pairK h2 v = e ∧ Srt.IsPair h2 v e.1 e.2 := by
    intro v hv'
    obtain ⟨b, hb, rfl⟩ := List.mem_map.mp hv'
    obtain ⟨j, hj⟩ := List.mem_iff_getElem?.mp hb
    obtain ⟨e, t, u, he, hg⟩ := pr j b hj
    have hg2 := ka _ _ hg
    exact ⟨j, b, e, rfl, hj, he, by simp only [pairK, hg2], b, _, t, u, _, rfl, hg2, rfl, rfl⟩
  have hsz : (as.map Value.ref).length ≤ sizeLine := by rw [List.length_map]; omega
  refine wpAny_call_entry PyProof.Rows.slot_list_sort ⟨_, hob, rfl⟩ PyProof.Rows.entry_list_sort
    (SrtO.list_sort_ord (s := { s with heap := h2, toks := tk }) (SrtO.swo_lex (pairK h2)) hob hsz (fun h2' => ?_) fun out o1 o2 => ⟨.none, rfl, ?_⟩) (PyProof.Rows.args_list_sort _)
  · refine SrtO.pairs_sortableO (s := { s with heap := h2, toks := tk }) (by omega) (fun v hv' => ?_) fun o e => ?_
    · obtain ⟨j, b, e, rfl, _, _, ek, hp'⟩ := at_ v hv'
      rw [ek]; exact hp'
    · have e' : some o = some (seqObj "list" (as.map Value.ref).toArray 0) := e.symm.trans hob
      cases e'
      intro c
      exact absurd (Value.type.inj c) (by decide)
  · show EP X pins σ Q (.ref h'.objs.size) { s with heap := sortedHeap h2 h'.objs.size (as.map Value.ref) out.toArray, toks := tk }
    obtain ⟨zs, pz, ez⟩ := perm_lift (fun z : Addr × Int × Int => Value.ref z.1) o2.perm (as.zip ks) (by
      have : (as.zip ks).map (fun z : Addr × Int × Int => Value.ref z.1) = ((as.zip ks).map Prod.fst).map Value.ref := by rw [List.map_map]; rfl
      rw [this, List.map_fst_zip (by omega)])
    have idx : ∀ z ∈ zs, ∃ j : Nat, as[j]? = some z.1 ∧ ks[j]? = some z.2 := by
      intro z' hz'
      obtain ⟨j, hj⟩ := List.mem_iff_getElem?.mp (pz.mem_iff.mp hz')
      exact ⟨j, List.getElem?_zip_eq_some.mp hj⟩
    have hperm : (zs.map (·.2)).Perm ks := by
      have e := pz.map (·.2)
      have m2 : (as.zip ks).map (·.2) = ks := List.map_snd_zip (by rw [lak]; exact Nat.le_refl _)
      rw [m2] at e
      exact e
    have hkz : ∀ z ∈ zs, pairK h2 (.ref z.1) = z.2 := by
      intro z' hz'
      obtain ⟨j, j1, j2⟩ := idx z' hz'
      obtain ⟨i, b, e, eb, i1, i2, ek, _⟩ := at_ (.ref z'.1) (List.mem_map.mpr ⟨_, List.mem_of_getElem? j1, rfl⟩)
      injection eb with eb
      rw [← eb] at i1
      have eij : i = j := (List.getElem?_inj (List.getElem?_eq_some_iff.mp i1).1 nd).mp (i1.trans j1.symm)
      subst eij
      exact ek.trans (Option.some.inj (i2.symm.trans j2))
    have hsort : (zs.map (·.2)).Pairwise (fun e f => e.1 ≤ f.1) := by
      have o1' : out.Pairwise _ := o1
      rw [← ez, List.pairwise_map] at o1'
      rw [List.pairwise_map]
      refine List.Pairwise.imp_of_mem (fun {x y} hx hy h => ?_) o1'
      have h := SrtO.lexB_no.mp h
      rw [hkz x hx, hkz y hy] at h
      show x.2.1 ≤ y.2.1
      omega
    have kF : ∀ b o, b ≠ h'.objs.size → h2.get? b = some o → (sortedHeap h2 h'.objs.size (as.map Value.ref) out.toArray).get? b = some o := fun b o hb e => (PyProof.Rows.sortedHeap_old hb (Heap.lt_size e)).trans e
    have kS : ∀ b o, s.heap.get? b = some o → (sortedHeap h2 h'.objs.size (as.map Value.ref) out.toArray).get? b = some o := fun b o e => kF b o (ne0 _ _ (hk b o e)) (kb b o e)
    obtain ⟨eF, heF⟩ := PyProof.Rows.sortedHeap_at (vs := as.map Value.ref) (out := out.toArray) hob
    have I1 : Inv X pins σ H { s with heap := sortedHeap h2 h'.objs.size (as.map Value.ref) out.toArray, toks := tk } := I.kept (t' := tk) kS
    have hn0 : H h'.objs.size = none := I.hok.fresh (Nat.le_of_lt hlt)
    have hlen : (zs.map fun z => V.ref z.1).length ≤ sizeLine := by
      have e := hperm.length_eq
      rw [List.length_map] at e
      rw [List.length_map]
      omega
    have rv : Vals (zs.map fun z => V.ref z.1) out.toArray.toList := by
      rw [List.toList_toArray, ← ez]
      exact vals_maps (fun z : Addr × Int × Int => V.ref z.1) (fun z => Value.ref z.1) zs fun _ _ => rfl
    have I2 : Inv X pins σ (upd H h'.objs.size (.lst (zs.map fun z => V.ref z.1))) { s with heap := sortedHeap h2 h'.objs.size (as.map Value.ref) out.toArray, toks := tk } :=
      I1.take (h' := sortedHeap h2 h'.objs.size (as.map Value.ref) out.toArray) (t' := tk) (fun b ob _ e => e) (I.fpOk (Nat.le_of_lt hlt) hn0) ⟨hlen, out.toArray.toList, eF, rv, heF⟩
    obtain ⟨H2, I3, g, qt⟩ := takeT (P := fun b vs => ∃ (j : Nat) (e : Int × Int), as[j]? = some b ∧ ks[j]? = some e ∧ vs = [.int e.1, .int e.2] ∧ H b = none) I as _ I2 nd fun b hb => by
      obtain ⟨j, hj⟩ := List.mem_iff_getElem?.mp hb
      obtain ⟨e, t, u, he, hg⟩ := pr j b hj
      have hbl : s.heap.objs.size ≤ b := Nat.le_of_lt (hG.above b hb)
      refine ⟨hbl, ?_, [.int e.1, .int e.2], ⟨j, e, hj, he, rfl, I.hok.fresh hbl⟩, fun H3 => ⟨(by rw [sizeLine_eq]; show 2 ≤ 16777216; omega), [Value.int e.1 t, Value.int e.2 u], .cons ⟨_, rfl⟩ (.cons ⟨_, rfl⟩ .nil), ⟨_, kF _ _ (ne0 _ _ hg) (ka _ _ hg), rfl, 0, rfl⟩⟩⟩
      rw [upd_ne (ne0 _ _ hg)]
      exact I.hok.fresh hbl
    have gr : ∀ b o, H b = some o → H2 b = some o := fun b o e => g b o (by rw [upd_ne (ne_of_none e hn0)]; exact e)
    refine ⟨.ref h'.objs.size, H2, I3, rfl, q H2 h'.objs.size zs gr hn0 hperm hsort (g _ _ upd_same) fun z' hz' => ?_⟩
    obtain ⟨i, i1, i2⟩ := idx z' hz'
    obtain ⟨vs, ⟨j, e, j1, j2, ev, hn⟩, hH⟩ := qt z'.1 (List.mem_of_getElem? i1)
    have eij : i = j := (List.getElem?_inj (List.getElem?_eq_some_iff.mp i1).1 nd).mp (i1.trans j1.symm)
    subst eij
    have ee : e = z'.2 := Option.some.inj (j2.symm.trans i2)
    rw [ev, ee] at hH
    exact ⟨hn, hH⟩
end
end L2.DX

namespace G3
open PySem PySem.Spec PyProof.Rows L2
/-! ### classes -/
def MkAt (K : PySem.W.Frag) (mg : Str → Option Value) (x : Str) (C : Addr) (nm qn : Str) (st : Stmt) : Prop := ∃ f fd, Fun K nm qn st f fd ∧ Mk K C f ∧ mg x = some (.ref C)
def HasMk (P : Program) (w : World) (K : PySem.W.Frag) (mg : Str → Option Value) (base : Heap) (CX : CXT) (k : Nat) (x : Str) (C : Addr) (ps : List Str) (sp : Sp) : Prop :=
  ∃ f fd, FnOk P w K mg base CX k f fd ps sp ∧ Mk K C f ∧ mg x = some (.ref C) ∧ Binds K fd ps []
section
variable {P : Program} {w : World} {K : PySem.W.Frag} {mg : Str → Option Value} {base : Heap} {k : Nat} {x : Str} {C : Addr} {ps : List Str} {sp : Sp}
theorem hasMk_of {nm qn : Str} {st : Stmt} {N : List Str} (D : MkAt K mg x C nm qn st) (S : FnScope N ps (defScope st))
    (hb : ∀ (kV doc pm : Value) (an : Option Addr) (cdv ct : Value) (us : List Value), us.length = ps.length → bindArgs (PySem.W.fnOf nm qn (defArgs st) (defBody st) (defScope st) .none kV doc pm an cdv ct) ⟨us, []⟩ = pure (ps.zip us))
    (len : ∀ vs H Q E, sp vs H Q E → vs.length = ps.length)
    (hbody : ∀ (f : Addr) (cdv : Value) (A : Around) (outer : List Env) (s : Shared) (H : Hp) (vs : List V) (Q : VK) (E : XK), Room k (A.deeper (envOfC qn (defScope st) s.heap.objs.size f cdv)) → sp vs H Q E →
      ∃ t, PSs (cxOf CX0 P w K mg base N qn (defScope st) f cdv A outer s H E).nox (defBody st) t ∧ t { nx := fun _ H' => Q .non H', rt := Q } (start N vs) H) : HasMk P w K mg base CX0 (k + 1) x C ps sp := by
  obtain ⟨f, fd, F, M, m⟩ := D
  exact ⟨f, fd, F.ok S len (fun cdv A outer s H vs Q E hr hs => hbody f cdv A outer s H vs Q E hr hs), M, m, F.binds hb⟩
end
theorem pe_makeH {X : Cx} {CX : CXT} {k j : Nat} {x : Str} {C : Addr} {ps : List Str} {sp : Sp} {E : XK} {p pos : Pos} {e : Expr} {es : List Expr} {t : TA} (h : HasMk X.prog X.w X.K X.mg X.base CX k x C ps sp) (hr : Room j X.A) (hx : Passes CX X E)
    (ha : PA X (e :: es) t) (hk : k + 1 ≤ j := by first | decide | omega) (hg : Gl X x := by rfl) (hdb : (x == ("__debug__" : Str)) = false := by decide) (he : starEach (e :: es) X.env = (false, eval e X.env) :: starEach es X.env := by rfl) (hpl : (backTo pos (starEach es X.env)).any (·.1) = false := by rfl) :
    PE X (.Call (.Name x p) (e :: es) [] pos) (tMake C sp [] E t) := by
  obtain ⟨f, fd, F, M, m, b⟩ := h
  exact pe_make M F (hr.mono hk) hg m b .nil hx ha hdb he hpl
theorem sortPK {X : Cx} {K : PySem.W.Frag} (h : X.K = K) : CallR X (.builtin "sorted") (rSortedPO K) := h ▸ cr_sortedPO
theorem bm0N {X : Cx} {K : PySem.W.Frag} (hK : X.K = K) {o : Expr} {to : TE} {name : Str} {apos cpos : Pos} {T id : String} {r : V → List V → Hp → VK → Prop} (pa : PlainAttrs T) (slot : Slot T name id) (hty : typeOf (.builtin id) = pure (.type "method_descriptor")) (hm : MtR X id r) (ho : PE X o to)
    (hbase : attributeBase o name X.env (eval o X.env) = eval o X.env := by rfl) (hline : (apos.endLine == cpos.line) = true := by rfl) : PE X (.Call (.Attribute o name apos) [] [] cpos) (tBM0 K T r to) := by
  subst hK
  exact pe_bm0 pa slot hty hm ho hbase hline
end G3

set_option Elab.async false
set_option linter.all false
set_option maxRecDepth 100000
set_option maxHeartbeats 4000000
/-! isinstance(e, C) of a caught error e, where the answer is yes by e's class: it may have a dict. -/
namespace PySem.W
open PySem PySem.Spec PySem.Calls PyProof.Rows
/-- yes, by the type alone -/
theorem g3_yes {K : Frag} {x t c : Value} {H : Heap → Prop} (ty : ∀ (M : Model) (h : Heap), K.In h → H h → Looks M h (typeOf x) t) (e : kitOne K t c = some true) : Answers (fun s => K.In s.heap ∧ H s.heap) x c true := by
  intro dep tk prog w A R s hs
  obtain ⟨h0, g, d, tt, os⟩ := s
  obtain ⟨⟨X, p⟩, hq⟩ := hs
  have LT := ty (model prog w) h0 X p
  unfold Builtin.«isinstance.nested»
  refine wpAny_bind (LT.at ?_)
  by_cases q : (t == c) = true
  · rw [if_pos q]
    first
      | exact wpAny_bind (wpAny_rule (hq tt))
      | exact wpAny_bind (wpAny_rule (wpAny_pure (hq tt)))
  · unfold kitOne at e
    rw [if_neg q] at e
    rw [if_neg q]
    obtain ⟨hty, his, hsub⟩ := kit_cls (M := model prog w) X e
    have LI : Looks (model prog w) h0 (isInstance x c) true := LT.andThen hsub
    refine wpAny_bind (hty.at ?_)
    rw [if_pos (by decide)]
    k_delta "plainIsInstance"
    refine wpAny_bind (wpAny_bind (his.at ?_))
    simp only [Bool.not_true, Bool.false_eq_true, if_false]
    refine wpAny_bind (LI.at ?_)
    first
      | exact wpAny_pure (wpAny_pure (hq tt))
      | (simp only [if_true]; first | exact wpAny_pure (wpAny_pure (hq tt)) | exact wpAny_pure (hq tt) | exact wpAny_bind (wpAny_pure (wpAny_pure (hq tt))))
end PySem.W
namespace L2
open PySem PySem.Spec PyProof.Rows
def rIsT (K : PySem.W.Frag) (cls : Value) (a : Addr) : List V → Hp → VK → Prop := fun xs H Q => ∃ (c : V) (cv : Value), xs = [.ref a, c] ∧ (∀ u, RelV c u → u = cv) ∧ PySem.W.kitOne K cls cv = some true ∧ Q (.bl true) H
theorem call_isT {X : Cx} {K : PySem.W.Frag} (hK : X.K = K) {a : Addr} {oe : Obj} {cls : Value} {d : Option Addr} {pn : List (Addr × Obj)} (hz : Zc cls d oe) : CallR (X.suite a ((a, oe) :: pn)) (.builtin "isinstance") (rIsT K cls a) := by
  subst hK
  intro pins s σ H xs us Q I r h
  obtain ⟨c, cv, rfl, hcv, e, q⟩ := h
  cases r with
  | cons rx rr =>
    cases rr with
    | cons rt rr =>
      cases rr
      cases rx
      have ec := hcv _ rt
      subst ec
      obtain ⟨hget, _⟩ := I.pin (a, oe) (List.mem_append.mpr (.inl List.mem_cons_self))
      have hty : ∀ (M : Model) (h : Heap), X.K.In h → h.get? a = some oe → PySem.W.Looks M h (typeOf (.ref a)) cls := fun M h _ p A Q E t k q => wpAny_typeOf_ref (k _ _ p) (by rw [hz.1]; exact q)
      exact call_isinstance (S := fun _ R s => (X.K.In s.heap ∧ s.heap.get? a = some oe) ∧ ∀ tk, R (.ok (.ret (.bool true))) { s with toks := tk })
        (fun prog w A R s hs => isinstance_outer (PySem.W.g3_yes (H := fun h => h.get? a = some oe) hty e 0 _ prog w A R s hs) (fun z => nomatch z)) ⟨⟨I.kIn, hget⟩, fun tk => ⟨.bl true, H, I.kept (t' := tk) fun _ _ z => z, rfl, q⟩⟩
end L2

set_option Elab.async false
set_option linter.all false
set_option maxRecDepth 100000
set_option maxHeartbeats 4000000
/-! Defs that are called where no repr is under way; repr of data. -/
namespace L2
open PySem PySem.Spec PyProof.Rows
/-- a def's promise, where no repr is under way -/
structure FnG (P : Program) (w : World) (K : PySem.W.Frag) (mg : Str → Option Value) (base : Heap) (CX : CXT) (k : Nat) (f : Addr) (fd : FuncData) (ps : List Str) (sp : Sp) : Prop where
  len : ∀ vs H Q E, sp vs H Q E → vs.length = ps.length
  run : ∀ (A : Around) (outer : List Env) (s : Shared) (H : Hp) (args : Args) (us : List Value) (vs : List V) (Q : VK) (E : XK), A.guards = some [] → Room k A → Env0 P w K mg base A outer s H → BindsTo s fd args (ps.zip us) → Vals vs us → sp vs H Q E →
    codeAny (model P w) A (.call (.ref f) args) (CR CX outer P w H s Q E) s
theorem fnG_of {CX : CXT} {P : Program} {w : World} {K : PySem.W.Frag} {mg : Str → Option Value} {base : Heap} {k : Nat} {f : Addr} {name qual : Str} {params : Arguments} {body : List Stmt} {scope : Scope} {dV kV doc pm cdv ct oc : Value} {an od : Option Addr}
    {osl : Array (Option Value)} {N ps : List Str} {sp : Sp} (lk : K.lookup f = some ⟨oc, od, .func (PySem.W.fnOf name qual params body scope dV kV doc pm an cdv ct), osl⟩) (hcd : PySem.W.codeIn K cdv qual = true) (S : FnScope N ps scope)
    (len : ∀ vs H Q E, sp vs H Q E → vs.length = ps.length)
    (hbody : ∀ (A : Around) (outer : List Env) (s : Shared) (H : Hp) (vs : List V) (Q : VK) (E : XK), (A.deeper (envOfC qual scope s.heap.objs.size f cdv)).guards = some [] → Room k (A.deeper (envOfC qual scope s.heap.objs.size f cdv)) → sp vs H Q E →
      ∃ t, PSs (cxOf CX P w K mg base N qual scope f cdv A outer s H E) body t ∧ t { nx := fun _ H' => Q .non H', rt := Q } (start N vs) H) :
    FnG P w K mg base CX (k + 1) f (PySem.W.fnOf name qual params body scope dV kV doc pm an cdv ct) ps sp := by
  refine ⟨len, fun A outer s H args us vs Q E hgd hr e0 hb r hsp => ?_⟩
  have kx : K.In s.heap := e0.mod.kin.keeps fun b o e => (e0.bs b o e).1
  have nl : s.heap.NoLimit := e0.mod.nolimit.keeps fun b o e => (e0.bs b o e).1
  refine codeAny_call_function hr.depth (kx _ _ lk) rfl S.co S.gen rfl (PySem.W.codeRec_of kx hcd) (hb _ _ _ _ ?_)
  refine wpAny_newFunctionEnv_cells S.kind (fun ⟨n, v⟩ hy => ?_) fun env he s1 x => ?_
  · exact (S.par n (List.of_mem_zip hy).1).imp id fun q => ⟨q, PySem.W.cellsFrom_some _ _ _ (.inl q)⟩
  subst he
  refine ⟨nl.keeps x.toInCall.keep, codeAny_func ?_⟩
  obtain ⟨t, ht, hq⟩ := hbody A outer s H vs Q E hgd (hr.deeper _) hsp
  refine wpAny_mono (ht.run [] s1 (start N vs) H _ (inv_start S hr.hd e0 (len _ _ _ _ hsp) r x) hq) (fun fl s' hs => ?_) fun e s' hs => hs
  cases fl with
  | ret u =>
    obtain ⟨v, σ', H', J, rv, q⟩ := hs
    exact ⟨v, H', J.os, J.bare, J.base, J.hok, rv, q⟩
  | next =>
    obtain ⟨σ', H', J, q⟩ := hs
    exact ⟨V.non, H', J.os, J.bare, J.base, J.hok, rfl, q⟩
  | brk => exact hs.elim fun _ h => h.elim fun _ h => h.2.elim
  | cont => exact hs.elim fun _ h => h.elim fun _ h => h.2.elim
section
variable {X : Cx} {CX : CXT} {k : Nat} {f : Addr} {fd : FuncData} {ps : List Str} {sp : Sp} {E : XK} {x : Str} {p pos : Pos} {e : Expr} {es : List Expr} {t : TA}
theorem pe_callG (hgd : X.A.guards = some []) (F : FnG X.prog X.w X.K X.mg X.base CX k f fd ps sp) (hr : Room k X.A) (hg : Gl X x) (hm : X.mg x = some (.ref f)) (hk : PySem.W.keepIn X.K (.ref f) = true) (hb : Binds X.K fd ps []) (hx : Passes CX X E)
    (ha : PA X (e :: es) t) (hdb : (x == ("__debug__" : Str)) = false := by decide) (he : starEach (e :: es) X.env = (false, eval e X.env) :: starEach es X.env := by rfl) (hpl : (backTo pos (starEach es X.env)).any (·.1) = false := by rfl) :
    PE X (.Call (.Name x p) (e :: es) [] pos) (tCall sp [] E t) := by
  refine ⟨fun pins s σ H Q I h => ?_⟩
  refine wpAny_Call_Name_kw (ld_glob I hg hm ?_ hdb)
  refine PySem.W.callWith_K (h₀ := X.base) I.ok.mod.kin hk (thn (ha.run pos pins s σ H _ I h) fun us s1 ⟨vs, H1, I1, r, q⟩ => ⟨I1.kIn, ?_⟩) he hpl
  have r2 : Vals (vs ++ []) (us ++ []) := r.append .nil
  have hl : (us ++ []).length = ps.length := r2.length.symm.trans (F.len _ _ _ _ q)
  refine wpAny_call (codeAny_mono (F.run X.A X.stack s1 H1 ⟨us, []⟩ (us ++ []) (vs ++ []) Q E hgd hr I1.env0 (hb s1 us I1.kIn hl) r2 q) fun r s' hq => ?_)
  cases r with
  | error e => exact hx pins σ H1 s1 e s' I1 hq
  | ok fl =>
    cases fl with
    | ret u => exact I1.after hq
    | next => exact hq.elim
    | brk => exact hq.elim
    | cont => exact hq.elim
/-- repr(d), d lists and tuples of any depth of numbers of no great size -/
def rRepr (K : PySem.W.Frag) : List V → Hp → VK → Prop := fun xs H Q => ∃ (a : Addr) (d : PyData), xs = [.ref a] ∧ Dp K H (.ref a) d ∧ d.showable = true ∧ d.hasDict = false ∧ d.depth ≤ 60 ∧ d.shown.length ≤ sizeLine ∧ Q (.str d.shown) H
theorem call_reprD (hgd : X.A.guards = some []) (hu : X.A.units + 64 < cLine) : CallR X (.builtin "repr") (rRepr X.K) := by
  intro pins s σ H xs us Q I r h
  obtain ⟨a, d, rfl, hd, h1, h2, h3, h4, q⟩ := h
  obtain rfl := Vals.ref1 r
  obtain ⟨as, rd⟩ := Dp.reads I d (.ref a) (.ref a) hd rfl
  exact repr_of_reads' rd h1 (PyData.noDict_hsm h2) hgd (by omega) (fun _ _ e => e) (fun h' u tk hk => ⟨.str _, H, I.kept (t' := tk) hk, ⟨_, rfl⟩, q⟩) h4
end
end L2
namespace G3
open PySem PySem.Spec PyProof.Rows L2
def HasG (P : Program) (w : World) (K : PySem.W.Frag) (mg : Str → Option Value) (base : Heap) (CX : CXT) (k : Nat) (x : Str) (ps : List Str) (sp : Sp) : Prop :=
  ∃ f fd, FnG P w K mg base CX k f fd ps sp ∧ mg x = some (.ref f) ∧ PySem.W.keepIn K (.ref f) = true ∧ Binds K fd ps []
theorem hasG_of {P : Program} {w : World} {K : PySem.W.Frag} {mg : Str → Option Value} {base : Heap} {k : Nat} {x nm : Str} {ps : List Str} {sp : Sp} {st : Stmt} {N : List Str} (D : DefAt K mg x nm st) (S : FnScope N ps (defScope st))
    (hb : ∀ (kV doc pm : Value) (an : Option Addr) (cdv ct : Value) (us : List Value), us.length = ps.length → bindArgs (PySem.W.fnOf nm nm (defArgs st) (defBody st) (defScope st) .none kV doc pm an cdv ct) ⟨us, []⟩ = pure (ps.zip us))
    (len : ∀ vs H Q E, sp vs H Q E → vs.length = ps.length)
    (hbody : ∀ (f : Addr) (cdv : Value) (A : Around) (outer : List Env) (s : Shared) (H : Hp) (vs : List V) (Q : VK) (E : XK), (A.deeper (envOfC nm (defScope st) s.heap.objs.size f cdv)).guards = some [] → Room k (A.deeper (envOfC nm (defScope st) s.heap.objs.size f cdv)) → sp vs H Q E →
      ∃ t, PSs (cxOf CX0 P w K mg base N nm (defScope st) f cdv A outer s H E).nox (defBody st) t ∧ t { nx := fun _ H' => Q .non H', rt := Q } (start N vs) H) : HasG P w K mg base CX0 (k + 1) x ps sp := by
  obtain ⟨f, fd, F, m⟩ := D
  obtain ⟨oc, od, kV, doc, pm, an, cdv, ct, osl, e, lk, hcd⟩ := F.ex
  have b := F.binds hb
  have kp := F.kp
  subst e
  refine ⟨f, _, fnG_of lk hcd S len fun A outer s H vs Q E hgd hr hs => ?_, m, kp, b⟩
  obtain ⟨t, h, q⟩ := hbody f cdv A outer s H vs Q E hgd hr hs
  exact ⟨t, h.nox, q⟩
theorem pe_hG {X : Cx} {CX : CXT} {k j : Nat} {x : Str} {ps : List Str} {sp : Sp} {E : XK} {p pos : Pos} {e : Expr} {es : List Expr} {t : TA} (hgd : X.A.guards = some []) (h : HasG X.prog X.w X.K X.mg X.base CX k x ps sp) (hr : Room j X.A) (hx : Passes CX X E)
    (ha : PA X (e :: es) t) (hk : k ≤ j := by first | decide | omega) (hg : Gl X x := by rfl) (hdb : (x == ("__debug__" : Str)) = false := by decide) (he : starEach (e :: es) X.env = (false, eval e X.env) :: starEach es X.env := by rfl) (hpl : (backTo pos (starEach es X.env)).any (·.1) = false := by rfl) :
    PE X (.Call (.Name x p) (e :: es) [] pos) (tCall sp [] E t) := by
  obtain ⟨f, fd, F, m, kp, b⟩ := h
  exact pe_callG hgd F (hr.mono hk) hg m kp b hx ha hdb he hpl
/-! ### how long a text of numbers is -/
theorem list_text (ts : List Str) : (listText ts).length ≤ piled ts + 2 := by
  have e2 : (("]" : String) : Str).length = 1 := rfl
  have e1 : (("[" : String) : Str).length = 1 := rfl
  unfold listText
  rw [strLen_append, e2]
  cases ts with
  | nil => show (("[" : String) : Str).length + 1 ≤ _; rw [e1]; omega
  | cons t ts =>
    show (textFrom 1 ((("[" : String) : Str) ++ (if 0 > 0 then ", " else "" : String) ++ t) ts).length + 1 ≤ _
    rw [textFrom_length_pos _ _ _ (by decide), strLen_append, strLen_append, e1, piled_cons]
    have : ((if 0 > 0 then ", " else "" : String) : Str).length = 0 := rfl
    rw [this]
    omega
end G3

set_option Elab.async false
set_option linter.all false
set_option maxRecDepth 100000
set_option maxHeartbeats 4000000
/-! sum(tuple of ints) -/
namespace PySem
section
variable {prog : Program} {w : World} {A : Around} {E : Value → Shared → Prop} {s : Shared} {l : Addr} {xs : Array (Int × Tok)}
theorem g3_sum_tup {Q : Value → Shared → Prop} (hh : A.handled = none) (hl : s.heap.IsTuple l (intItems xs))
    (h : ∀ h' tk t', (∀ b o, s.heap.get? b = some o → h'.get? b = some o) → Q (.int (preSum (numAt xs) xs.size) t') { s with heap := h', toks := tk }) :
    wpAny (model prog w) A (call (.builtin "sum") [.ref l]) Q E s := by
  have hlt : l < s.heap.objs.size := by obtain ⟨_, e, _⟩ := hl; exact Heap.lt_size e
  have hne : l ≠ s.heap.objs.size := Nat.ne_of_lt hlt
  refine call_sum_walkG (wpAny_pyIter_tuple hl ?_)
  refine ⟨_, _, _, _, _, _, numAt xs, rfl, Walks.tuple (A := A.in1) hh _ l hne (intItems xs), ⟨⟨_, Heap.get?_push_size _ rfl, rfl, rfl⟩, hl.push _⟩, fun b hb => ?_, (fun _ _ => intItems_at), fun h' tk t' hk => ?_⟩
  · show b < (s.heap.push _).objs.size
    rw [Heap.size_push]
    rcases List.mem_cons.mp hb with rfl | hb
    · exact Nat.lt_succ_self _
    · rcases List.mem_cons.mp hb with rfl | hb
      · exact Nat.lt_succ_of_lt hlt
      · cases hb
  · have := h h' tk t' fun b o e => hk b o (fun hm => by
      rcases List.mem_cons.mp hm with e1 | hm
      · exact absurd (e1 ▸ Heap.lt_size e) (Nat.lt_irrefl _)
      · cases hm) (Heap.get?_push_of_some _ e)
    simpa [intItems] using this
end
end PySem
namespace L2
open PySem PySem.Spec PyProof.Rows
def rSumT (K : PySem.W.Frag) : List V → Hp → VK → Prop := fun vs H Q => ∃ (a : Addr) (ns : List Int), vs = [V.ref a] ∧ SqT K H a (ns.map V.int) ∧ Q (.int ns.sum) H
theorem cr_sumT {X : Cx} (hc : X.calm = true) : CallR X (.builtin "sum") (rSumT X.K) := by
  intro pins s σ H vs us Q I r h
  obtain ⟨a, ns, rfl, hs, q⟩ := h
  obtain ⟨its, rv, p, _⟩ := I.tuple hs
  rw [Vals.ref1 r]
  have hi := rv.ints
  obtain ⟨xs, e⟩ := hi.allInts.items
  have hn : numsOf (intItems xs).toList = ns := by rw [← e]; exact hi.numsOf
  rw [nums_intItems] at hn
  have hl : s.heap.IsTuple a (intItems xs) := by rw [← e]; exact p
  refine PySem.g3_sum_tup (I.ok.hd hc) hl fun h' tk t' hk => ?_
  rw [preSum_eq, List.take_of_length_le (by simp), hn]
  exact ⟨.int _, H, I.kept hk, ⟨_, rfl⟩, q⟩
end L2

set_option Elab.async false
set_option linter.all false
set_option maxRecDepth 100000
set_option maxHeartbeats 4000000
/-! The head's end for a promise that holds where no repr is under way; facts of own errors with super().__init__. -/
namespace L2
open PySem PySem.Spec PyProof.Rows
theorem law_callG {P : Program} {w : World} {K : PySem.W.Frag} {mg mb : Str → Option Value} {CX : CXT} {k : Nat} {fa a : Addr} {x : Str} {sp : Sp} {s₁ : Shared} {vs : List Value} {ns : List Int}
    (KX : K.In s₁.heap) (hns : s₁.heap.Ns mainGlobals mg) (hb : s₁.heap.Ns builtinsNs mb) (hbb : ∀ x : Str, x ≠ "__name__" → mb x = bootBuiltins x) (hlim : s₁.heap.NoLimit) (hg : s₁.gens = #[])
    (ha : s₁.heap.get? a = some { cls := .type "list", data := .seq vs.toArray }) (hi : IntsAre vs ns) (hl : ns.length ≤ sizeLine) (hr : Room k callerA)
    (F : ∀ base : Heap, K.In base → base.Ns mainGlobals mg → ∃ fd, FnG P w K mg base CX k fa fd [x] sp ∧ Binds K fd [x] [])
    (hsp : ∀ H : Hp, Only H → SqL K H a (ns.map V.int) → sp [.ref a] H (fun v _ => v = .bl true) fun _ _ _ => False)
    (hCX : ∀ H e s', CX [] H s₁ (fun _ _ _ => False) e s' → False) :
    codeAny (model P w) callerA (.call (.ref fa) ⟨[.ref a], []⟩) (fun r s' => r = .ok (.ret (.bool true)) ∧ OldK s₁.heap s'.heap ∧ s'.os = s₁.os ∧ AllBare s'.gens) s₁ := by
  have rv := vals_ints hi
  -- for any H in which only the script may stand
  have main : ∀ H : Hp, Only H → SqL K H a (ns.map V.int) → HOk P w H s₁.heap → (∀ b, H b ≠ none → b = a) → (H a ≠ none → K.lookup a = none) →
      codeAny (model P w) callerA (.call (.ref fa) ⟨[.ref a], []⟩) (fun r s' => r = .ok (.ret (.bool true)) ∧ OldK s₁.heap s'.heap ∧ s'.os = s₁.os ∧ AllBare s'.gens) s₁ := by
    intro H hO hS hok hA hK
    have notIt : ∀ {b : Addr} {o : Obj} {es : Array DictEntry} {ep : Nat}, s₁.heap.get? b = some o → o.data = .dict es ep → H b = none := fun {b o es ep} e d => by
      by_cases z : H b = none
      · exact z
      · have e' := hA b z
        rw [e', ha] at e
        cases e
        cases (show Data.seq vs.toArray _ = Data.dict es ep from d)
    have nsK : ∀ {b : Addr} {m : Str → Option Value}, s₁.heap.Ns b m → (hidT s₁.heap H).Ns b m := fun {b m} ⟨o, es, ep, e, d, r⟩ => ⟨o, es, ep, hidT_get e (notIt e d), d, r⟩
    have hKb : K.In (hidT s₁.heap H) := fun b o e => hidT_get (KX b o e) (by
      by_cases z : H b = none
      · exact z
      · have e' := hA b z
        rw [e'] at z e
        rw [hK z] at e
        cases e)
    have hM : Mod K mg (hidT s₁.heap H) := ⟨hKb, nsK hns, ⟨mb, nsK hb, hbb⟩, let ⟨mc, h1, h2⟩ := hlim; ⟨mc, nsK h1, h2⟩⟩
    have e0 : Env0 P w K mg (hidT s₁.heap H) callerA [] s₁ H := ⟨rfl, hM, fun b o e => of_hidT e, Nat.le_of_eq (hidT_size _ _), trivial, fun b hb => absurd (show b ∈ ([] : List Addr) from hb) (by simp), hok, .of_eq hg⟩
    obtain ⟨fd, hF, hB⟩ := F _ hKb (nsK hns)
    refine codeAny_mono (hF.run callerA [] s₁ H ⟨[.ref a], []⟩ [.ref a] [.ref a] _ _ rfl hr e0 (hB s₁ [.ref a] KX rfl) (.cons rfl .nil) (hsp H hO hS)) fun r s' h => ?_
    cases r with
    | error e => exact (hCX H e s' h).elim
    | ok fl =>
      cases fl with
      | next => exact h.elim
      | brk => exact h.elim
      | cont => exact h.elim
      | ret u =>
        obtain ⟨v, H', os, bare, un, hok', r', q⟩ := h
        obtain rfl : v = .bl true := q
        obtain rfl : u = Value.bool true := r'
        refine ⟨rfl, OldK.of_keep fun b o e => ?_, os, bare⟩
        rcases hO b with q | ⟨ob, xs, z⟩
        · exact un.keep b o e q (by intro z; exact absurd (show b ∈ ([] : List Addr) from z) (by simp)) (by simp)
        · obtain ⟨e1, _⟩ := hok b _ z
          obtain ⟨e2, _⟩ := hok' b _ (un.frzs b ob _ z)
          rw [e] at e1
          cases e1
          exact e2
  cases hk : K.lookup a with
  | some o =>
    have e := KX a o hk
    rw [ha] at e
    cases e
    exact main (fun _ => none) (fun _ => .inl rfl) (.inr ⟨_, vs.toArray, _, hk, rfl, rfl, rfl, by rw [List.size_toArray, hi.length]; exact hl, by simpa using rv⟩) (fun b u z => by cases (show (none : Option HO) = some u from z)) (fun b z => absurd rfl z) fun z => absurd rfl z
  | none =>
    refine main (fun b => if b = a then some (.frz { cls := .type "list", data := .seq vs.toArray } (.lst (ns.map V.int))) else none) (fun b => ?_) (.inl (.inr ⟨{ cls := .type "list", data := .seq vs.toArray }, if_pos rfl⟩)) (fun b u z => ?_) (fun b z => ?_) fun _ => hk
    · by_cases hb : b = a
      · exact .inr ⟨_, _, if_pos hb⟩
      · exact .inl (if_neg hb)
    · by_cases hb : b = a
      · cases (if_pos hb).symm.trans z
        subst hb
        exact ⟨ha, by rw [List.length_map]; exact hl, vs, _, rv, ha⟩
      · cases (if_neg hb).symm.trans z
    · by_cases hb : b = a
      · exact hb
      · exact absurd (if_neg hb) z
theorem walk_ofG {l : PySem.W.OpenLaw} {n k : Nat} {q : Program} {loose : List Str} {XP : (Str → Option Value) → Heap → Prop} {YP : World → Heap → Prop} {d : DefRec} {CX : CXT} {x : Str}
    (hn : l.most = some n) (hn2 : n ≤ sizeLine) (hdf : d.params.defaults = []) (hr : Room k callerA)
    (F : ∀ (w : World) (mg : Str → Option Value) (fa : Addr) (h : Heap), YP w h → h.Ns mainGlobals mg → mg d.name = some (.ref fa) →
      ∃ (K : PySem.W.Frag) (sp : Sp), K.In h ∧
        (∀ (H : Hp) (a : Addr) (ns : List Int), ns.length ≤ n → Only H → SqL K H a (ns.map V.int) → sp [.ref a] H (fun v _ => v = .bl true) fun _ _ _ => False) ∧
        ∀ base : Heap, K.In base → base.Ns mainGlobals mg → ∃ fd, FnG l.prog w K mg base CX k fa fd [x] sp ∧ Binds K fd [x] [])
    (hCX : ∀ (H : Hp) (s : Shared) (e : Value) (s' : Shared), CX [] H s (fun _ _ _ => False) e s' → False) :
    PySem.W.WalkO q loose XP YP l.row.toRowW d [] (fun f vs => PySem.call f vs) := by
  refine Att.attach_call hn hdf fun w s₀ s₁ mg mb fa o pm cd doc a vs ns G Y ho hd hcd hmg hobj hints hlen hg => ?_
  obtain ⟨K, sp, KX, hsp, hF⟩ := F w mg fa _ Y G.T.g hmg
  exact law_callG KX G.T.g G.T.b G.T.builtins G.T.nolimit hg hobj hints (Nat.le_trans hlen hn2) hr hF (fun H hO hS => hsp H a ns hlen hO hS) fun H e s' => hCX H s₁ e s'
end L2
namespace SupX
open PySem PySem.W PySem.Calls PyProof.Rows PySem.HandSPX
/-! ### such a class, asked of the written part -/
def clsB (K : Frag) (C : Addr) : Bool := match K.lookup C with
  | some ⟨.type "type", _, .cls ⟨_, _, .ref C' :: bm, _, _, true, _, _, _, _, false⟩, sl⟩ => (match sl.toList with
    | [_, _, _, _, some (.builtin n), _] => decide (C' = C) && (decide (n = "ValueError.__new__") && refsVE bm)
    | _ => false)
  | _ => false
theorem clsB_ok {K : Frag} {C : Addr} (h : clsB K C = true) : ∃ nm q N bs bm sn sub ab col dd k0 k1 k2 k3 k5, K.lookup C = some (excClassObj nm q C N bs bm true sn sub ab col dd k0 k1 k2 k3 k5 "ValueError.__new__") ∧ refsVE bm = true := by
  unfold clsB at h
  split at h
  · rename_i dd nm bs C' bm ns qn sn sub ab col sl ho
    split at h
    · rename_i k0 k1 k2 k3 n k5 hs
      simp only [Bool.and_eq_true, decide_eq_true_eq] at h
      obtain ⟨rfl, rfl, h3⟩ := h
      have e : sl = #[k0, k1, k2, k3, some (.builtin "ValueError.__new__"), k5] := by
        obtain ⟨l⟩ := sl
        simp only at hs
        rw [hs]
      subst e
      exact ⟨_, _, _, _, bm, _, _, _, _, _, k0, k1, k2, k3, k5, ho, h3⟩
    · cases h
  · cases h
/-- the closure and the code object of its __init__ -/
def fnB (K : Frag) (file : Str) (qual : Str) (C fI : Addr) : Bool := match K.lookup fI with
  | some ⟨_, _, .func fd, _⟩ => (match fd.closure, fd.code, fd.defaults, fd.kwdefaults with
    | [(nm, cc)], .ref cda, .none, .none => decide (nm = "__class__") && (codeIn K (.ref cda) qual && ((match K.lookup cc with
        | some ⟨_, _, .cell (some (.ref C')), _⟩ => decide (C' = C)
        | _ => false) && (match K.lookup cda with
        | some ⟨_, _, .fields vs, _⟩ => (match (vs[2]? : Option Value) with
          | some (Value.str fl _) => file == fl
          | _ => false)
        | _ => false)))
    | _, _, _, _ => false)
  | _ => false
abbrev FnC : Type := Option (Str × Str × Arguments × FuncBody × Scope × Addr × Addr)
def fnC (K : Frag) (fI : Addr) : FnC := match K.lookup fI with
  | some ⟨_, _, .func fd, _⟩ => some (fd.name, fd.qualname, fd.params, fd.body, fd.scope, fd.globals, fd.builtins)
  | _ => none
theorem fn_ok {K : Frag} {file qual : Str} {C fI : Addr} {ps : Arguments} {body : List Stmt} {sc : Scope} (e : fnC K fI = some (("__init__" : Str), qual, ps, FuncBody.stmts body, sc, mainGlobals, builtinsNs)) (h : fnB K file qual C fI = true) :
    ∃ (oc : Value) (od : Option Addr) (doc pm : Value) (an : Option Addr) (ct : Value) (osl : Array (Option Value)) (cda cc : Addr),
      K.lookup fI = some ⟨oc, od, .func (ksFn "__init__" qual ps body sc .none .none doc pm an (.ref cda) ct cc), osl⟩ ∧ codeIn K (.ref cda) qual = true ∧
      (∃ (cl : Value) (cld : Option Addr) (csl : Array (Option Value)), K.lookup cc = some ⟨cl, cld, .cell (some (.ref C)), csl⟩) ∧
      ∃ (ccl : Value) (cdd : Option Addr) (ccs : Array (Option Value)) (vs : Array Value) (fl : Str) (tf : Tok), K.lookup cda = some ⟨ccl, cdd, .fields vs, ccs⟩ ∧ vs[2]? = some (.str fl tf) ∧ (file == fl) = true := by
  unfold fnB at h
  unfold fnC at e
  cases q : K.lookup fI with
  | none => rw [q] at h; cases h
  | some o =>
    obtain ⟨oc, od, dt, osl⟩ := o
    rw [q] at h e
    cases dt with
    | func fd =>
      obtain ⟨n1, n2, n3, n4, n5, n6, n7, n8, n9, n10, n11, n12, n13, n14, n15⟩ := fd
      have e2 : (some (n1, n2, n3, n4, n5, n6, n15) : FnC) = some (("__init__" : Str), qual, ps, FuncBody.stmts body, sc, mainGlobals, builtinsNs) := e
      simp only [Option.some.injEq, Prod.mk.injEq] at e2
      obtain ⟨h1, h2, h3, h4, h5, h6, h8⟩ := e2
      subst h1 h2 h3 h4 h5 h6 h8
      dsimp only at h
      split at h
      · rename_i nm cc cda
        simp only [Bool.and_eq_true, decide_eq_true_eq] at h
        obtain ⟨rfl, hc, hcc, hcd⟩ := h
        refine ⟨oc, od, n10, n11, n12, n14, osl, cda, cc, rfl, hc, ?_, ?_⟩
        · split at hcc
          · rename_i c1 c2 C' c3 ho
            obtain rfl : C' = C := of_decide_eq_true hcc
            exact ⟨_, _, _, ho⟩
          · cases hcc
        · split at hcd
          · rename_i c1 c2 vs c3 ho
            split at hcd
            · rename_i fl tf hv
              exact ⟨_, _, _, vs, fl, tf, ho, hv, hcd⟩
            · cases hcd
          · cases hcd
      · cases h
    | _ => cases h
def eqO (a b : Option (Option Value)) : Bool := decide (a = b)
def eqB (a : Option Bool) (b : Bool) : Bool := decide (a = some b)
/-- the class x with its __init__ -/
def supB (K : Frag) (file x qual : Str) : Bool :=
  clsB K (He.ga K x) && (eqO (findIn K (.ref (He.ga K x)) "__setattr__") (some (some (.builtin "object.__setattr__"))) && (eqO (findIn K (.ref (He.ga K x)) "__getattribute__") (some (some (.builtin "BaseException.__getattribute__"))) &&
  (eqO (findIn K (.ref (He.ga K x)) "__getattr__") (some none) && (eqO (findIn K (.ref (He.ga K x)) "number") (some none) && (eqO (findIn K (.ref (He.ga K x)) "__init__") (some (some (.ref (He.ma K (He.ga K x) "__init__")))) &&
  (decide (typeIn K (.ref (He.ma K (He.ga K x) "__init__")) = some (.type "function")) && (keepIn K (.ref (He.ga K x)) && (eqB (subIn K (.ref (He.ga K x)) (.type "BaseException")) true && (eqB (subIn K (.ref (He.ga K x)) (.type "ValueError")) true &&
  (decide (typeIn K (.ref (He.ga K x)) = some (.type "type")) && (hasDictIn K (He.ga K x) && (eqO (ks_superIn K (He.ga K x) (He.ga K x) "__init__") (some (some (.builtin "ValueError.__init__"))) && (eqB (mroIn K (He.ga K x) (.ref (He.ga K x))) true &&
  (eqO (nsIn K cStatics "thirdparty.any") (some none) && fnB K file qual (He.ga K x) (He.ma K (He.ga K x) "__init__")))))))))))))))
theorem sup_ok {prog : Program} {K : Frag} {mg : Str → Option Value} {x qual : Str} {p1 p2 q1 q2 q3 q4 q5 q6 q7 q8 q9 q10 : Pos} (gC : mg x = some (.ref (He.ga K x))) (free : mg "super" = none) (htop : (prog.main.scope.names.lookup (Str.ofString "super")).isSome = false)
    (e : fnC K (He.ma K (He.ga K x) "__init__") = some ((("__init__" : Str)), qual, iA p1 p2, FuncBody.stmts (iB q1 q2 q3 q4 q5 q6 q7 q8 q9 q10), iS, mainGlobals, builtinsNs)) (hq : (q3.endLine == q5.line) = true) (h : supB K (prog.main.file : Str) x qual = true) :
    SupTxt prog K mg x (He.ga K x) (He.ma K (He.ga K x) "__init__") := by
  unfold supB at h
  simp only [Bool.and_eq_true] at h
  obtain ⟨h1, h2, h3, h4, h5, h6, h7, h8, h9, h10, h11, h12, h13, h14, h15, h16⟩ := h
  obtain ⟨oc, od, doc, pm, an, ct, osl, cda, cc, k1, k2, k3, k4⟩ := fn_ok e h16
  exact ⟨gC, clsB_ok h1, of_decide_eq_true h2, of_decide_eq_true h3, of_decide_eq_true h4, of_decide_eq_true h5, of_decide_eq_true h6, of_decide_eq_true h7, h8, of_decide_eq_true h9, of_decide_eq_true h10, of_decide_eq_true h11, h12, of_decide_eq_true h13, of_decide_eq_true h14, of_decide_eq_true h15, free, htop,
    oc, od, doc, pm, an, ct, osl, p1, p2, q1, q2, q3, q4, q5, q6, q7, q8, q9, q10, qual, cda, cc, k1, k2, hq, k3, k4⟩
/-! ### a Hook that asks of these too -/
abbrev AlX : Type := Bool × List He.FnW × List FnC
def obsX (fa : List He.Fa) (fn : List He.DefD) (sup : List Str) (mine : Frag → Bool) (K : Frag) : AlX := ((He.obsD fa fn K).1 && mine K, (He.obsD fa fn K).2, sup.map fun x => fnC K (He.ma K (He.ga K x) "__init__"))
def valX (fn : List He.DefD) (sv : List FnC) : AlX := (true, (He.valD fn).2, sv)
def obsXG (n : Nat) (fa : List He.Fa) (fn : List He.DefD) (sup : List Str) (mine : Frag → Bool) (g : Addr → Option Obj) : AlX := obsX fa fn sup mine (He.frG g (He.asD g n ++ [cStatics]))
def hookX (n : Nat) (fa : List He.Fa) (fn : List He.DefD) (sup : List Str) (sv : List FnC) (mine : Frag → Bool) : PySem.W.Hook where
  α := AlX
  obs := fun s => obsXG n fa fn sup mine s.heap.get?
  val := fun _ => valX fn sv
  says := fun _ h => ∃ K : Frag, K.In h ∧ obsX fa fn sup mine K = valX fn sv
  of := fun _ _ e => ⟨_, He.frG_in, e⟩
  keeps := fun _ _ _ ⟨K, hK, c⟩ k => ⟨K, PySem.W.Frag.In.keeps hK k, c⟩
theorem obsXG_eq {n : Nat} {fa : List He.Fa} {fn : List He.DefD} {sup : List Str} {sv : List FnC} {mine : Frag → Bool} {g : Addr → Option Obj} {s : Shared} (h : ∀ a, g a = s.heap.get? a) : obsXG n fa fn sup mine g = (hookX n fa fn sup sv mine).obs s := by
  have e : g = s.heap.get? := funext h
  rw [e] <;> rfl
theorem saysX {fa : List He.Fa} {fn : List He.DefD} {sup : List Str} {sv : List FnC} {mine : Frag → Bool} {K : Frag} (h : obsX fa fn sup mine K = valX fn sv) : He.SaysD fa fn K ∧ mine K = true ∧ sup.map (fun x => fnC K (He.ma K (He.ga K x) "__init__")) = sv := by
  have h1 : ((He.obsD fa fn K).1 && mine K) = true := congrArg (fun z : AlX => z.1) h
  have h2 : (He.obsD fa fn K).2 = (He.valD fn).2 := congrArg (fun z : AlX => z.2.1) h
  have h3 : sup.map (fun x => fnC K (He.ma K (He.ga K x) "__init__")) = sv := congrArg (fun z : AlX => z.2.2) h
  rw [Bool.and_eq_true] at h1
  exact ⟨Prod.ext h1.1 h2, h1.2, h3⟩
end SupX

set_option Elab.async false
set_option linter.all false
set_option maxRecDepth 100000
set_option maxHeartbeats 2000000
namespace G3
open PySem PySem.Spec PyProof.Rows L2
section
variable {P : Program} {w : World} {K : PySem.W.Frag} {mg : Str → Option Value} {base : Heap}
abbrev n_is_whole : List Str := ["value"]
abbrev p_is_whole : List Str := ["value"]
theorem sc_is_whole : FnScope n_is_whole p_is_whole (defScope s_is_whole) := ⟨rfl, rfl, rfl, by decide +kernel, rfl, by decide +kernel, by decide +kernel⟩
abbrev n_edge_fault : List Str := ["edge", "n", "place"]
abbrev p_edge_fault : List Str := ["edge", "n"]
theorem sc_edge_fault : FnScope n_edge_fault p_edge_fault (defScope s_edge_fault) := ⟨rfl, rfl, rfl, by decide +kernel, rfl, by decide +kernel, by decide +kernel⟩
theorem ok_is_whole {x : Str} (D : DefAt K mg x "is_whole" s_is_whole) (B : Bt mg) : Has P w K mg base CX0 1 x p_is_whole (spIsI K) := by
  refine has_of D sc_is_whole (fun _ _ _ _ _ _ us hl => match us, hl with | [_], _ => rfl) (fun vs H Q E h => ?_) (fun f cdv A outer s H vs Q E hr h => ?_)
  · obtain ⟨x, d, rfl, _⟩ := h
    rfl
  · obtain ⟨x, d, rfl, hd, q⟩ := h
    refine ⟨_, (pss_one (ps_ret (pe_and (pe_callB (isiK (K := K) rfl) rfl B.isinstance (by decide +kernel) (pa_cons (pv 0) (pa_cons (pe_bltn (v := .ty "int") (u := .type "int") rfl B.int (by decide +kernel) rfl) pa_nil))) (pe_one (pe_not (pe_callB (isiK (K := K) rfl) rfl B.isinstance (by decide +kernel) (pa_cons (pv 0) (pa_cons (pe_bltn (v := .ty "bool") (u := .type "bool") rfl B.bool (by decide +kernel) rfl) pa_nil)))))))), ?_⟩
    have ty := Dp.ty hd
    refine ⟨_, rfl, _, _, _, _, _, rfl, .ty _, ty, kt_int d, _, rfl, ?_⟩
    cases hd with
    | non => exact iteF q
    | bl b => exact iteT ⟨_, rfl, _, _, _, _, _, rfl, .ty _, ty, kt_bool _, _, rfl, q⟩
    | int i => exact iteT ⟨_, rfl, _, _, _, _, _, rfl, .ty _, ty, kt_bool _, _, rfl, q⟩
    | str x => exact iteF q
    | lst _ _ => exact iteF q
    | tup _ _ => exact iteF q
def spEdgeFault : Sp := fun vs H Q _ => ∃ (e : Addr) (a b n : Nat), vs = [.ref e, nV n] ∧ H e = some (.tup [nV a, nV b]) ∧ a < b ∧ b < n ∧ ∀ H', Same H H' → Q .non H'
theorem ok_edge_fault (D : DefAt K mg "edge_fault" "edge_fault" s_edge_fault) (B : Bt mg) (h_is_whole : Has P w K mg base CX0 1 "is_whole" p_is_whole (spIsI K)) : Has P w K mg base CX0 2 "edge_fault" p_edge_fault spEdgeFault := by
  refine has_of D sc_edge_fault (fun _ _ _ _ _ _ us hl => match us, hl with | [_, _], _ => rfl) (fun vs H Q E h => ?_) (fun f cdv A outer s H vs Q E hr h => ?_)
  · obtain ⟨e, a, b, n, rfl, _⟩ := h
    rfl
  · obtain ⟨e, a, b, n, rfl, he, hab, hbn, q⟩ := h
    refine ⟨_, (pss_cons (ps_if (PW.pt (pw_or (pt_not (pt_val (pe_callB (isiTK (K := K) rfl) rfl B.isinstance (by decide +kernel) (pa_cons (pv 0) (pa_cons (pe_tup (pa_cons (pe_bltn (v := .ty "tuple") (u := .type "tuple") rfl B.tuple (by decide +kernel) rfl) (pa_cons (pe_bltn (v := .ty "list") (u := .type "list") rfl B.list (by decide +kernel) rfl) pa_nil))) pa_nil))))) (pw_or (pt_cmpR op_ne (pe_callB (lenK (K := K) rfl) rfl B.len PySem.boot_len (pa_cons (pv 0) pa_nil)) pe_int (nomark _)) (pw_or1 (pt_not (pt_val (pe_callB (allK (K := K) rfl rfl) rfl B.all (by decide +kernel) (pa_cons (pe_lc (own := [("place", 2)]) (g := gName 2) (tt := tYes) rfl sc_edge_fault.nd (piT (K := K) rfl (pv 0)) (blkOk_by (N := n_edge_fault) (sc := defScope s_edge_fault) (by decide +kernel)) (fun _ _ _ _ _ => (pg_name (i := 2) sc_edge_fault.nd rfl (.inl rfl))) (fun _ _ _ _ _ => pts_nil) (fun _ _ _ _ _ => (pe_h h_is_whole hr pass0 (pa_cons (pv 2) pa_nil)))) pa_nil)))))))) (pss_one (ps_ret pe_str)) pss_nil)
  (pss_one (ps_ret (pe_ifExp (pt_chain3 op_le op_lt op_lt pe_int (pe_ix (ixT (K := K) rfl) (pv 0) pe_int (fun _ _ => rfl)) (pe_ix (ixT (K := K) rfl) (pv 0) pe_int (fun _ _ => rfl)) (pv 1)) pe_non pe_str)))), ?_⟩
    refine ⟨_, rfl, by show 2 ≤ sizeLine; decide, fun tp ntp => ?_⟩
    have s1 : Same H (upd H tp (.tup [.ty "tuple", .ty "list"])) := same_upd ntp
    generalize hH1 : upd H tp (.tup [.ty "tuple", .ty "list"]) = H1 at s1
    have htp : H1 tp = some (.tup [.ty "tuple", .ty "list"]) := by rw [← hH1]; exact upd_same
    have he1 := s1 _ _ he
    refine ⟨_, tp, _, _, _, true, rfl, htp, .cons (.ty _) (.cons (.ty _) .nil), ty_t (SqT.of he1), kt_tl (.tuple []), _, rfl, iteF ?_⟩
    refine ⟨_, rfl, _, 2, rfl, .inr ⟨_, SqT.of he1, rfl⟩, rfl, _, rfl, ifN (fun e => absurd rfl e) fun _ => ?_⟩
    refine ⟨_, rfl, e, rfl, ⟨_, SqT.of he1⟩, fun L nL => ?_⟩
    refine lc_tup (K := K) (a := e) (xs := [nV a, nV b]) (fun i H2 => Same H1 H2 ∧ H2 L = some (.lst ((List.replicate i true).map V.bl))) ⟨same_upd nL, upd_same⟩ (fun i H2 _ p => SqT.of (p.1 _ _ he1)) ?_ ?_
    · rintro i x H2 hx ⟨sm, hl⟩
      have hi : i < 2 := (List.getElem?_eq_some_iff.mp hx).1
      have hv : ∃ j : Nat, x = nV j := by
        match i, hx, hi with
        | 0, hx, _ => exact ⟨a, (Option.some.inj hx).symm⟩
        | 1, hx, _ => exact ⟨b, (Option.some.inj hx).symm⟩
      obtain ⟨j, rfl⟩ := hv
      refine ⟨rfl, yes_ ?_⟩
      refine ⟨_, rfl, _, _, rfl, .int _, _, hl, size_lt (by rw [len_rep]; omega), same_mut sm nL, ?_⟩
      rw [upd_same, List.replicate_succ', List.map_append]; rfl
    · rintro H2 ⟨sm, hl⟩
      refine ⟨_, _, rfl, SqL.of hl, _, rfl, ?_⟩
      rw [all_rep]
      refine iteF ?_
      have s2 := s1.trans sm
      have he2 := s2 _ _ he
      refine ⟨_, rfl, _, _, 0, nV a, rfl, rfl, SqT.of he2, rfl, _, _, rfl, rfl, _, rfl, ifD (fun _ => ?_) (fun h => absurd (Int.natCast_nonneg a) h)⟩
      refine ⟨_, rfl, _, _, 1, nV b, rfl, rfl, SqT.of he2, rfl, _, _, rfl, rfl, _, rfl, ifD (fun _ => ?_) (fun h => absurd (by omega) h)⟩
      refine ⟨_, rfl, _, _, rfl, rfl, _, rfl, ifD (fun _ => ?_) (fun h => absurd (by omega) h)⟩
      exact q _ s2
end
end G3

set_option Elab.async false
set_option linter.all false
set_option maxRecDepth 100000
set_option maxHeartbeats 2000000
namespace G3
open PySem PySem.Spec PyProof.Rows L2
/-! ## places that are together -/
def adj (ps : List Pr) (v : Nat) : List Nat := ps.flatMap fun e => (if e.1 = v then [e.2] else []) ++ (if e.2 = v then [e.1] else [])
theorem mem_adj {ps : List Pr} {v u : Nat} : u ∈ adj ps v ↔ ∃ e ∈ ps, (e.1 = v ∧ e.2 = u) ∨ (e.2 = v ∧ e.1 = u) := by
  unfold adj
  rw [List.mem_flatMap]
  constructor
  · rintro ⟨e, he, h⟩
    refine ⟨e, he, ?_⟩
    rcases List.mem_append.mp h with h | h
    · by_cases c : e.1 = v
      · rw [if_pos c] at h; exact .inl ⟨c, (List.mem_singleton.mp h).symm⟩
      · rw [if_neg c] at h; cases h
    · by_cases c : e.2 = v
      · rw [if_pos c] at h; exact .inr ⟨c, (List.mem_singleton.mp h).symm⟩
      · rw [if_neg c] at h; cases h
  · rintro ⟨e, he, h⟩
    refine ⟨e, he, List.mem_append.mpr ?_⟩
    rcases h with ⟨h1, h2⟩ | ⟨h1, h2⟩
    · exact .inl (by rw [if_pos h1]; exact List.mem_singleton.mpr h2.symm)
    · exact .inr (by rw [if_pos h1]; exact List.mem_singleton.mpr h2.symm)
theorem adj_app {ps qs : List Pr} {v : Nat} : adj (ps ++ qs) v = adj ps v ++ adj qs v := by
  unfold adj; rw [List.flatMap_append]
theorem adj_one {e : Pr} {v : Nat} : adj [e] v = (if e.1 = v then [e.2] else []) ++ (if e.2 = v then [e.1] else []) := by
  unfold adj; simp
theorem adj_le {ps : List Pr} {v : Nat} : (adj ps v).length ≤ 2 * ps.length := by
  induction ps with
  | nil => exact Nat.le_refl 0
  | cons e r ih =>
    have : adj (e :: r) v = adj [e] v ++ adj r v := adj_app (ps := [e])
    rw [this, List.length_append, adj_one, List.length_append, List.length_cons]
    have h1 : (if e.1 = v then [e.2] else []).length ≤ 1 := by split <;> simp
    have h2 : (if e.2 = v then [e.1] else []).length ≤ 1 := by split <;> simp
    omega
def Reach (ps : List Pr) (s i : Nat) : Prop := ∀ f : Nat → Bool, (∀ e ∈ ps, f e.1 = f e.2) → f i = f s
theorem Reach.refl {ps : List Pr} {s : Nat} : Reach ps s s := fun _ _ => rfl
theorem Reach.step {ps : List Pr} {s v u : Nat} (h : Reach ps s v) (hu : u ∈ adj ps v) : Reach ps s u := fun f hf => by
  rw [← h f hf]
  obtain ⟨e, he, h | h⟩ := mem_adj.mp hu
  · rw [← h.1, ← h.2]; exact (hf e he).symm
  · rw [← h.1, ← h.2]; exact hf e he
theorem closed_reach {ps : List Pr} {n s : Nat} {F : List Bool} (hb : ∀ e ∈ ps, e.1 < n ∧ e.2 < n) (hs : F[s]? = some true) (hc : ∀ v, F[v]? = some true → ∀ u ∈ adj ps v, F[u]? = some true) {i : Nat} (h : Reach ps s i) : F[i]? = some true := by
  have e := h (fun j => F[j]? == some true) fun e he => by
    show (F[e.1]? == some true) = (F[e.2]? == some true)
    by_cases c : F[e.1]? = some true
    · rw [c, hc _ c _ (mem_adj.mpr ⟨e, he, .inl ⟨rfl, rfl⟩⟩)]
    · by_cases c2 : F[e.2]? = some true
      · exact absurd (hc _ c2 _ (mem_adj.mpr ⟨e, he, .inr ⟨rfl, rfl⟩⟩)) c
      · rw [beq_eq_false_iff_ne.mpr c, beq_eq_false_iff_ne.mpr c2]
  have e2 : (F[i]? == some true) = (F[s]? == some true) := e
  rw [hs] at e2
  exact beq_iff_eq.mp (e2.trans rfl)
/-- one more place found -/
theorem count_set_true {F : List Bool} {u : Nat} (h : F[u]? = some false) : (F.set u true).count false + 1 = F.count false := by
  obtain ⟨hl, e⟩ := List.getElem?_eq_some_iff.mp h
  have h1 : 0 < F.count false := List.count_pos_iff.mpr (e ▸ List.getElem_mem hl)
  rw [List.count_set hl, e]
  simp
  omega
/-- what is found while row v is gone through -/
structure Seek (ps : List Pr) (n s : Nat) (F : List Bool) (W : List Nat) (ex : Nat → Nat → Prop) : Prop where
  len : F.length = n
  at0 : F[s]? = some true
  inW : ∀ w ∈ W, F[w]? = some true
  re : ∀ v, F[v]? = some true → Reach ps s v
  closed : ∀ v, F[v]? = some true → v ∉ W → ∀ u ∈ adj ps v, F[u]? = some true ∨ ex v u
theorem Seek.new {ps : List Pr} {n s u v : Nat} {F : List Bool} {W : List Nat} {ex : Nat → Nat → Prop} (h : Seek ps n s F W ex) (hv : F[v]? = some true) (hu : u ∈ adj ps v) (hF : F[u]? = some false) :
    Seek ps n s (F.set u true) (W ++ [u]) ex := by
  have keep : ∀ x, F[x]? = some true → (F.set u true)[x]? = some true := fun x hx => by
    by_cases c : u = x
    · subst c; rw [hF] at hx; cases hx
    · rw [List.getElem?_set_ne c]; exact hx
  have hl := (List.getElem?_eq_some_iff.mp hF).1
  have back : ∀ x, (F.set u true)[x]? = some true → x = u ∨ F[x]? = some true := fun x hx => by
    by_cases c : u = x
    · exact .inl c.symm
    · rw [List.getElem?_set_ne c] at hx; exact .inr hx
  refine ⟨by rw [List.length_set]; exact h.len, keep _ h.at0, fun w hw => ?_, fun x hx => ?_, fun x hx hxW y hy => ?_⟩
  · rcases List.mem_append.mp hw with hw | hw
    · exact keep _ (h.inW w hw)
    · rw [List.mem_singleton.mp hw, List.getElem?_set_self hl]
  · rcases back x hx with rfl | hx
    · exact (h.re v hv).step hu
    · exact h.re x hx
  · rcases back x hx with rfl | hx
    · exact absurd (List.mem_append.mpr (.inr (List.mem_singleton.mpr rfl))) hxW
    · exact (h.closed x hx (fun z => hxW (List.mem_append.mpr (.inl z))) y hy).imp (keep y) id
theorem Seek.done {ps : List Pr} {n s : Nat} {F : List Bool} {ex : Nat → Nat → Prop} (h : Seek ps n s F [] ex) (hex : ∀ v u, ¬ ex v u) (hb : ∀ e ∈ ps, e.1 < n ∧ e.2 < n) (i : Nat) : F[i]? = some true ↔ Reach ps s i :=
  ⟨h.re i, fun r => closed_reach hb h.at0 (fun v hv u hu => (h.closed v hv (List.not_mem_nil) u hu).elim id fun z => (hex _ _ z).elim) r⟩
theorem Seek.pop {ps : List Pr} {n s v : Nat} {F : List Bool} {W : List Nat} (h : Seek ps n s F (W ++ [v]) fun _ _ => False) : F[v]? = some true ∧ Seek ps n s F W fun x u => x = v ∧ u ∈ (adj ps v).drop 0 := by
  refine ⟨h.inW v (List.mem_append.mpr (.inr (List.mem_singleton.mpr rfl))), h.len, h.at0, fun w hw => h.inW w (List.mem_append.mpr (.inl hw)), h.re, fun x hx hxW u hu => ?_⟩
  by_cases c : x = v
  · exact .inr ⟨c, by rw [List.drop_zero, ← c]; exact hu⟩
  · refine (h.closed x hx (fun z => ?_) u hu).imp id fun f => f.elim
    rcases List.mem_append.mp z with z | z
    · exact hxW z
    · exact c (List.mem_singleton.mp z)
theorem Seek.next {ps : List Pr} {n s v j u : Nat} {F : List Bool} {W : List Nat} (h : Seek ps n s F W fun x u => x = v ∧ u ∈ (adj ps v).drop j) (hj : (adj ps v)[j]? = some u) (hu : F[u]? = some true) :
    Seek ps n s F W fun x u => x = v ∧ u ∈ (adj ps v).drop (j + 1) := by
  refine ⟨h.len, h.at0, h.inW, h.re, fun x hx hxW y hy => ?_⟩
  rcases h.closed x hx hxW y hy with z | ⟨z1, z2⟩
  · exact .inl z
  · obtain ⟨hl, e⟩ := List.getElem?_eq_some_iff.mp hj
    rw [List.drop_eq_getElem_cons hl, e] at z2
    rcases List.mem_cons.mp z2 with rfl | z2
    · exact .inl hu
    · exact .inr ⟨z1, z2⟩
theorem Seek.last {ps : List Pr} {n s v : Nat} {F : List Bool} {W : List Nat} (h : Seek ps n s F W fun x u => x = v ∧ u ∈ (adj ps v).drop (adj ps v).length) : Seek ps n s F W fun _ _ => False :=
  ⟨h.len, h.at0, h.inW, h.re, fun x hx hxW y hy => (h.closed x hx hxW y hy).imp id fun z => by rw [List.drop_length] at z; cases z.2⟩
/-- what of H stands but for what stood at no time before -/
def But (X : Addr → Prop) (H H' : Hp) : Prop := ∀ b o, ¬ X b → H b = some o → H' b = some o
theorem But.trans {X : Addr → Prop} {H H1 H2 : Hp} (a : But X H H1) (b : But X H1 H2) : But X H H2 := fun c o n e => b c o n (a c o n e)
theorem But.refl {X : Addr → Prop} {H : Hp} : But X H H := fun _ _ _ e => e
theorem But.mut {X : Addr → Prop} {H : Hp} {p : Addr} {o : HO} (h : X p) : But X H (upd H p o) := fun b u n e => by
  have c : b ≠ p := fun z => n (z ▸ h)
  rw [upd_ne c]; exact e
theorem Same.but {X : Addr → Prop} {H H' : Hp} (h : Same H H') : But X H H' := fun b o _ e => h b o e
theorem But.same {X : Addr → Prop} {H0 H H' : Hp} (h : But X H H') (s : Same H0 H) (hx : ∀ b, X b → H0 b = none) : Same H0 H' := fun b o e => by
  refine h b o (fun z => ?_) (s b o e)
  rw [hx b z] at e; cases e
/-- a list of things apart, c i the i-th -/
def Rows (H : Hp) (B : Addr) (as : List Addr) (c : Nat → HO) : Prop := H B = some (.lst (as.map V.ref)) ∧ as.Nodup ∧ ∀ i a, as[i]? = some a → a ≠ B ∧ H a = some (c i)
theorem rows_get {as : List Addr} {i : Nat} (h : i < as.length) : (as.map V.ref)[i]? = some (.ref as[i]) := getMap h
theorem Rows.nil {H : Hp} {B : Addr} {c : Nat → HO} : Rows (upd H B (.lst [])) B [] c := ⟨upd_same, List.nodup_nil, fun _ _ h => nomatch h⟩
theorem Rows.but {X : Addr → Prop} {H H' : Hp} {B : Addr} {as : List Addr} {c : Nat → HO} (h : Rows H B as c) (e : But X H H') (hB : ¬ X B) (ha : ∀ a ∈ as, ¬ X a) : Rows H' B as c :=
  ⟨e _ _ hB h.1, h.2.1, fun i a z => ⟨(h.2.2 i a z).1, e _ _ (ha a (List.mem_of_getElem? z)) (h.2.2 i a z).2⟩⟩
theorem Rows.same {H H' : Hp} {B : Addr} {as : List Addr} {c : Nat → HO} (h : Rows H B as c) (e : Same H H') : Rows H' B as c :=
  ⟨e _ _ h.1, h.2.1, fun i a z => ⟨(h.2.2 i a z).1, e _ _ (h.2.2 i a z).2⟩⟩
theorem Rows.push {H : Hp} {B a : Addr} {as : List Addr} {c : Nat → HO} {o : HO} (h : Rows H B as c) (na : H a = none) (ho : o = c as.length) :
    (upd H a o) B = some (.lst (as.map V.ref)) ∧ Rows (upd (upd H a o) B (.lst (as.map V.ref ++ [.ref a]))) B (as ++ [a]) c := by
  obtain ⟨r1, r2, r3⟩ := h
  have nab : B ≠ a := fun z => by rw [← z, r1] at na; cases na
  refine ⟨by rw [upd_ne nab]; exact r1, by rw [upd_same, List.map_append]; rfl, ?_, fun i x hx => ?_⟩
  · refine List.nodup_append.mpr ⟨r2, List.nodup_cons.mpr ⟨List.not_mem_nil, List.nodup_nil⟩, fun x hx y hy e => ?_⟩
    rw [List.mem_singleton.mp hy] at e
    obtain ⟨i, hi, z⟩ := List.getElem_of_mem hx
    have := (r3 i x (by rw [List.getElem?_eq_getElem hi, z])).2
    rw [e, na] at this; cases this
  · by_cases hi : i < as.length
    · rw [List.getElem?_append_left hi] at hx
      obtain ⟨h1, h2⟩ := r3 i x hx
      have nxa : x ≠ a := fun z => by rw [z, na] at h2; cases h2
      exact ⟨h1, by rw [upd_ne h1, upd_ne nxa]; exact h2⟩
    · have hl := (List.getElem?_eq_some_iff.mp hx).1
      rw [List.length_append] at hl
      have : i = as.length := by simp at hl; omega
      subst this
      rw [List.getElem?_append_right (Nat.le_refl _)] at hx
      have : x = a := by simpa using hx.symm
      subst this
      exact ⟨fun z => nab z.symm, by rw [upd_ne (fun z => nab z.symm), upd_same, ho]⟩
theorem Rows.set {H : Hp} {B a : Addr} {as : List Addr} {c : Nat → HO} {o : HO} {k : Nat} (h : Rows H B as c) (hk : as[k]? = some a) : Rows (upd H a o) B as (fun i => if i = k then o else c i) := by
  obtain ⟨r1, r2, r3⟩ := h
  have hb := (r3 k a hk).1
  refine ⟨by rw [upd_ne hb.symm]; exact r1, r2, fun i x hx => ⟨(r3 i x hx).1, ?_⟩⟩
  by_cases c1 : i = k
  · subst c1
    rw [hk] at hx
    obtain rfl := Option.some.inj hx
    show _ = some (if i = i then o else c i)
    rw [if_pos rfl, upd_same]
  · have : x ≠ a := fun z => by
      subst z
      obtain ⟨l1, e1⟩ := List.getElem?_eq_some_iff.mp hk
      obtain ⟨l2, e2⟩ := List.getElem?_eq_some_iff.mp hx
      exact c1 ((List.getElem_inj r2).mp (e2.trans e1.symm))
    show _ = some (if i = k then o else c i)
    rw [if_neg c1, upd_ne this]
    exact (r3 i x hx).2
theorem Rows.to {H : Hp} {B : Addr} {as : List Addr} {c c' : Nat → HO} (h : Rows H B as c) (e : ∀ i, i < as.length → c i = c' i) : Rows H B as c' :=
  ⟨h.1, h.2.1, fun i a z => ⟨(h.2.2 i a z).1, by rw [← e i (List.getElem?_eq_some_iff.mp z).1]; exact (h.2.2 i a z).2⟩⟩
theorem Rows.at {H : Hp} {B : Addr} {as : List Addr} {c : Nat → HO} (h : Rows H B as c) {i : Nat} (hi : i < as.length) : as[i] ≠ B ∧ H as[i] = some (c i) := h.2.2 i _ (List.getElem?_eq_getElem hi)
section
variable {P : Program} {w : World} {K : PySem.W.Frag} {mg : Str → Option Value} {base : Heap}
abbrev n_together : List Str := ["n", "pairs", "start", "found", "beside", "one", "other", "waiting", "place"]
abbrev p_together : List Str := ["n", "pairs", "start"]
theorem sc_together : FnScope n_together p_together (defScope s_together) := ⟨rfl, rfl, rfl, by decide +kernel, rfl, by decide +kernel, by decide +kernel⟩
def spTogether (K : PySem.W.Frag) : Sp := fun vs H Q _ => ∃ (n s : Nat) (p : Addr) (ws : List V) (ps : List Pr), vs = [nV n, .ref p, nV s] ∧ (SqL K H p ws ∨ SqT K H p ws) ∧ Prs H ws ps ∧ (∀ e ∈ ps, e.1 < n ∧ e.2 < n) ∧ s < n ∧ n ≤ 10000 ∧ ps.length ≤ 10000 ∧
  ∀ (H' : Hp) (L : Addr) (F : List Bool), Same H H' → H L = none → H' L = some (.lst (F.map V.bl)) → F.length = n → (∀ i, F[i]? = some true ↔ Reach ps s i) → Q (.ref L) H'
theorem ok_together (D : DefAt K mg "together" "together" s_together) (B : Bt mg) : Has P w K mg base CX0 1 "together" p_together (spTogether K) := by
  refine has_of D sc_together (fun _ _ _ _ _ _ us hl => match us, hl with | [_, _, _], _ => rfl) (fun vs H Q E h => ?_) (fun f cdv A outer s H vs Q E hr h => ?_)
  · obtain ⟨n, s, p, ws, ps, rfl, _⟩ := h
    rfl
  · obtain ⟨n, s, p, ws, ps, rfl, hp, hps, hb, hsn, hn, hl, q⟩ := h
    refine ⟨_, (pss_cons (ps_setLc (i := 3) (own := [("place", 8)]) (g := gName 8) (tt := tYes) rfl sc_together.nd rfl rfl (sw_true rfl rfl rfl (by decide +kernel)) (pi_range1 rfl B.range (pa_cons (pv 0) pa_nil)) (blkOk_by (N := n_together) (sc := defScope s_together) (by decide +kernel)) (fun _ _ _ _ _ => (pg_name (i := 8) sc_together.nd rfl (.inl rfl))) (fun _ _ _ _ _ => pts_nil) (fun _ _ _ _ _ => (pe_cmpR op_eq (pv 8) (pv 2) (nomark _))))
  (pss_cons (ps_setLc (i := 4) (own := [("place", 8)]) (g := gName 8) (tt := tYes) rfl sc_together.nd rfl rfl (sw_true rfl rfl rfl (by decide +kernel)) (pi_range1 rfl B.range (pa_cons (pv 0) pa_nil)) (blkOk_by (N := n_together) (sc := defScope s_together) (by decide +kernel)) (fun _ _ _ _ _ => (pg_name (i := 8) sc_together.nd rfl (.inl rfl))) (fun _ _ _ _ _ => pts_nil) (fun _ _ _ _ _ => (pe_lst pa_nil)))
  (Evl.pss_cut (ps_for PassesOwn.never rfl (pi_row (K := K) rfl (pv 1)) (pgT (K := K) (n := 2) rfl rfl (pgs_cons (pg_name (i := 5) sc_together.nd rfl (.inl rfl)) (pgs_cons (pg_name (i := 6) sc_together.nd rfl (.inl rfl)) pgs_nil))) (pss_cons (ps_expr (pe_bm PySem.F.plainAttrs_list PySem.F.slot_list_append PySem.F.type_list_append mt_append (pe_ix (ixL (K := K) rfl) (pv 4) (pv 5) (fun _ _ => rfl)) (pa_cons (pv 6) pa_nil)))
  (pss_one (ps_expr (pe_bm PySem.F.plainAttrs_list PySem.F.slot_list_append PySem.F.type_list_append mt_append (pe_ix (ixL (K := K) rfl) (pv 4) (pv 6) (fun _ _ => rfl)) (pa_cons (pv 5) pa_nil))))))
  (pss_cons (ps_set (i := 7) sc_together.nd rfl (.inl rfl) (pe_lst (pa_cons (pv 2) pa_nil)))
  (pss_cons (ps_while PassesOwn.never (pt_truth (pv 7) (by intro _; rfl)) (pss_one (ps_for PassesOwn.never rfl (piL (K := K) rfl (pe_ix (ixL (K := K) rfl) (pv 4) (pe_bm0 PySem.F.plainAttrs_list PySem.F.slot_list_pop PySem.F.type_list_pop mt_pop (pv 7)) (fun _ _ => rfl))) (pg_name (i := 6) sc_together.nd rfl (.inl rfl)) (pss_one (ps_if (pt_not (pt_val (pe_ix (ixL (K := K) rfl) (pv 3) (pv 6) (fun _ _ => rfl)))) (pss_cons (ps_asg pe_bl (pg_sub (pv 3) (pv 6) set_list))
  (pss_one (ps_expr (pe_bm PySem.F.plainAttrs_list PySem.F.slot_list_append PySem.F.type_list_append mt_append (pv 7) (pa_cons (pv 6) pa_nil))))) pss_nil)))))
  (pss_one (ps_ret (pv 3)))))))), ?_⟩
    -- found
    refine ⟨_, rfl, _, rfl, by omega, by omega, fun F0 nF => ?_⟩
    refine lc_range (lo := 0) (n := n) (fun i H2 => Same H H2 ∧ H2 F0 = some (.lst (((List.range i).map fun k => decide (k = s)).map V.bl))) ⟨same_upd nF, upd_same⟩ ?_ ?_
    · rintro i H2 hi ⟨sm, hF⟩
      refine ⟨rfl, yes_ ?_⟩
      refine ⟨_, rfl, _, rfl, rfl, _, hF, size_lt (by rw [List.length_map, List.length_map, List.length_range]; omega), same_mut sm nF, ?_⟩
      rw [upd_same, List.range_succ, List.map_append, List.map_append]
      have e : decide (V.int (0 + (i : Int)) = nV s) = decide (i = s) := decide_eq_decide.mpr ⟨fun h => by injection h with h; omega, fun h => by rw [h]; exact congrArg V.int (by omega)⟩
      rw [e]; rfl
    rintro H1 ⟨sm1, hF⟩
    -- beside
    refine ⟨_, rfl, _, rfl, by omega, by omega, fun B0 nB => ?_⟩
    refine lc_range (lo := 0) (n := n) (fun i H2 => Same H1 H2 ∧ ∃ as, as.length = i ∧ Rows H2 B0 as (fun _ => .lst []) ∧ ∀ a ∈ as, H1 a = none) ⟨same_upd nB, [], rfl, Rows.nil, fun a h => nomatch h⟩ ?_ ?_
    · rintro i H2 hi ⟨sm, as, las, ro, fr⟩
      refine ⟨rfl, yes_ ?_⟩
      refine ⟨by show 0 ≤ sizeLine; decide, fun a na => ?_⟩
      obtain ⟨p1, p2⟩ := ro.push (o := .lst []) na rfl
      refine ⟨_, p1, size_lt (by rw [List.length_map]; omega), same_mut (sm.trans (same_upd na)) nB, as ++ [a], by rw [List.length_append, las]; rfl, p2, fun x hx => ?_⟩
      rcases List.mem_append.mp hx with hx | hx
      · exact fr x hx
      · rw [List.mem_singleton.mp hx]; exact sm.free na
    rintro H2 ⟨sm2, as, las, ro, fr⟩
    -- the rows
    have notAs : ∀ x o, H x = some o → ¬ x ∈ as := fun x o e z => by
      have := fr x z
      rw [sm1 _ _ e] at this; cases this
    have s12 : Same H H2 := sm1.trans sm2
    refine ⟨fun σ H' => ∃ (y z : Option V), σ = [some (nV n), some (.ref p), some (nV s), some (.ref F0), some (.ref B0), y, z, none, none] ∧ But (· ∈ as) H2 H' ∧ Rows H' B0 as (fun v => .lst ((adj ps v).map nV)), ?_, ?_⟩
    · refine ⟨_, rfl, p, rfl, ?_⟩
      refine for_row (K := K) (a := p) (xs := ws) (H0 := H) hp (fun i σ H' => ∃ (y z : Option V), σ = [some (nV n), some (.ref p), some (nV s), some (.ref F0), some (.ref B0), y, z, none, none] ∧ But (· ∈ as) H2 H' ∧ Rows H' B0 as (fun v => .lst ((adj (ps.take i) v).map nV))) ?_ ?_ ?_ ?_
      · exact ⟨none, none, rfl, But.refl, ro.to fun i _ => rfl⟩
      · rintro i σ' H' ⟨y, z, rfl, bt, _⟩ o ho
        exact bt _ _ (notAs _ _ ho) (s12 _ _ ho)
      · rintro i x σ' H' hx ⟨y, z, rfl, bt, ro'⟩
        have hi : i < ps.length := by rw [← hps.len]; exact (List.getElem?_eq_some_iff.mp hx).1
        obtain ⟨t, e1, e2⟩ := hps.get hi
        rw [hx] at e1
        obtain rfl := Option.some.inj e1
        obtain ⟨b1, b2⟩ := hb _ (List.getElem_mem hi)
        generalize he : ps[i] = e at e2 b1 b2
        obtain ⟨a, b⟩ := e
        have ht : H' t = some (.tup [nV a, nV b]) := bt _ _ (notAs _ _ e2) (s12 _ _ e2)
        refine ⟨t, _, rfl, SqT.of ht, rfl, _, _, rfl, _, _, rfl, rfl, ?_⟩
        have la : a < as.length := by omega
        have lb : b < as.length := by omega
        have hal := adj_le (ps := ps.take i) (v := a)
        have hbl := adj_le (ps := ps.take i) (v := b)
        have htl : (ps.take i).length ≤ 10000 := by rw [List.length_take]; omega
        refine ⟨_, rfl, _, rfl, _, _, a, .ref as[a], rfl, rfl, SqL.of ro'.1, atI_nat (rows_get la), .inl ⟨rfl, _, SqL.of (ro'.at la).2⟩, _, rfl, _, _, _, rfl, rfl, (ro'.at la).2, size_lt (by rw [List.length_map]; omega), ?_⟩
        have r1 := ro'.set (o := .lst ((adj (ps.take i) a).map nV ++ [nV b])) (List.getElem?_eq_getElem la)
        have m1 : But (· ∈ as) H' (upd H' as[a] (.lst ((adj (ps.take i) a).map nV ++ [nV b]))) := But.mut (X := (· ∈ as)) (List.getElem_mem la)
        generalize upd H' as[a] (.lst ((adj (ps.take i) a).map nV ++ [nV b])) = H3 at r1 m1
        obtain ⟨l2, k2⟩ : ∃ l2, l2.length ≤ 20001 ∧ (if b = a then HO.lst ((adj (ps.take i) a).map nV ++ [nV b]) else .lst ((adj (ps.take i) b).map nV)) = .lst (l2.map nV) ∧ l2 ++ [a] = adj (ps.take (i + 1)) b := by
          rw [List.take_add_one, List.getElem?_eq_getElem hi, he]
          by_cases c : b = a
          · subst c
            refine ⟨adj (ps.take i) b ++ [b], ?_, ?_, ?_⟩
            · rw [List.length_append]; simp; omega
            · rw [if_pos rfl, List.map_append]; rfl
            · show _ = adj (ps.take i ++ [(b, b)]) b
              rw [adj_app, adj_one]; simp
          · refine ⟨adj (ps.take i) b, by omega, if_neg c, ?_⟩
            show _ = adj (ps.take i ++ [(a, b)]) b
            rw [adj_app, adj_one, if_neg (show ¬ (a, b).1 = b from fun z => c z.symm), if_pos rfl]
            rfl
        have hb3 := (r1.at lb).2
        rw [k2.2.1] at hb3
        refine ⟨_, rfl, _, rfl, _, _, b, .ref as[b], rfl, rfl, SqL.of r1.1, atI_nat (rows_get lb), .inl ⟨rfl, _, SqL.of hb3⟩, _, rfl, _, _, _, rfl, rfl, hb3, size_lt (by rw [List.length_map]; omega), ?_⟩
        refine ⟨_, _, rfl, (bt.trans m1).trans (But.mut (X := (· ∈ as)) (List.getElem_mem lb)), ?_⟩
        refine (r1.set (List.getElem?_eq_getElem lb)).to fun v hv => ?_
        show (if v = b then HO.lst (l2.map nV ++ [nV a]) else if v = a then HO.lst ((adj (ps.take i) a).map nV ++ [nV b]) else .lst ((adj (ps.take i) v).map nV)) = _
        by_cases c : v = b
        · subst c
          rw [if_pos rfl, ← k2.2.2, List.map_append]; rfl
        · rw [if_neg c, List.take_add_one, List.getElem?_eq_getElem hi, he]
          show _ = HO.lst ((adj (ps.take i ++ [(a, b)]) v).map nV)
          rw [adj_app, adj_one, if_neg (show ¬ (a, b).2 = v from fun z => c z.symm), List.append_nil, List.map_append]
          by_cases c2 : v = a
          · subst c2
            rw [if_pos rfl, if_pos rfl]; rfl
          · rw [if_neg c2, if_neg (show ¬ (a, b).1 = v from fun z => c2 z.symm)]
            simp
      · rintro σ' H' ⟨y, z, rfl, bt, rw'⟩
        rw [hps.len, List.take_length] at rw'
        exact ⟨_, _, rfl, bt, rw'⟩
    · rintro σ' H' ⟨y, z, rfl, bt, ro'⟩
      have frs : Same H H' := bt.same s12 fun x hx => sm1.free (fr x hx)
      have hF' : H' F0 = some (.lst (((List.range n).map fun k => decide (k = s)).map V.bl)) := bt _ _ (fun z => by have := fr _ z; rw [hF] at this; cases this) (sm2 _ _ hF)
      refine ⟨_, rfl, by show 1 ≤ sizeLine; decide, fun W0 nW => ?_⟩
      have nWF : W0 ≠ F0 := fun z => by rw [z, hF'] at nW; cases nW
      have ro3 := ro'.same (same_upd (o := .lst [nV s]) nW)
      have hF3 : (upd H' W0 (.lst [nV s])) F0 = some (.lst (((List.range n).map fun k => decide (k = s)).map V.bl)) := by rw [upd_ne nWF.symm]; exact hF'
      have hW3 : (upd H' W0 (.lst [nV s])) W0 = some (.lst [nV s]) := upd_same
      have s3 : Same H (upd H' W0 (.lst [nV s])) := frs.trans (same_upd nW)
      have nB0 : ¬ (B0 = F0 ∨ B0 = W0) := fun z => z.elim (fun z => by rw [z, hF] at nB; cases nB) fun z => by rw [← z, ro'.1] at nW; cases nW
      have nas : ∀ a ∈ as, ¬ (a = F0 ∨ a = W0) := fun a ha z => by
        rcases z with z | z
        · have := fr a ha
          rw [z, hF] at this; cases this
        · obtain ⟨k, hk, e⟩ := List.getElem_of_mem ha
          have := (ro'.at hk).2
          rw [e, z, nW] at this; cases this
      generalize upd H' W0 (.lst [nV s]) = H3 at ro3 hF3 hW3 s3 ⊢
      have nx : ∀ x, x = F0 ∨ x = W0 → H x = none := fun x hx => by
        rcases hx with rfl | rfl
        · exact nF
        · exact frs.free nW
      have cF : ∀ v, ((List.range n).map fun k => decide (k = s))[v]? = some true → v = s := fun v hv => by
        rw [List.getElem?_map] at hv
        by_cases c : v < n
        · rw [List.getElem?_range c] at hv
          exact of_decide_eq_true (Option.some.inj hv)
        · rw [List.getElem?_eq_none (by rw [List.length_range]; omega)] at hv
          cases hv
      have c0 : ((List.range n).map fun k => decide (k = s))[s]? = some true := by
        rw [List.getElem?_map, List.getElem?_range hsn]
        show some (decide (s = s)) = _
        rw [decide_eq_true rfl]
      have sk0 : Seek ps n s ((List.range n).map fun k => decide (k = s)) [s] (fun _ _ => False) :=
        ⟨by rw [List.length_map, List.length_range], c0, fun w hw => by rw [List.mem_singleton.mp hw]; exact c0, fun v hv => by rw [cF v hv]; exact Reach.refl, fun v hv nv => absurd (List.mem_singleton.mpr (cF v hv)) nv⟩
      have cl : ∀ F : List Bool, F.length = n → F.count false ≤ n := fun F e => e ▸ List.count_le_length
      refine ⟨fun m σ' H4 => ∃ (y z : Option V) (F : List Bool) (Wl : List Nat), σ' = [some (nV n), some (.ref p), some (nV s), some (.ref F0), some (.ref B0), y, z, some (.ref W0), none] ∧ But (fun x => x = F0 ∨ x = W0) H3 H4 ∧ H4 F0 = some (.lst (F.map V.bl)) ∧ H4 W0 = some (.lst (Wl.map nV)) ∧ Seek ps n s F Wl (fun _ _ => False) ∧ m = 2 * F.count false + Wl.length ∧ m ≤ 2 * n + 1, ⟨_, _, _, _, [s], rfl, But.refl, hF3, hW3, sk0, rfl, ?_⟩, ?_⟩
      · have := cl _ sk0.len
        show 2 * _ + 1 ≤ _
        omega
      rintro m σ' H4 ⟨y, z, F, Wl, rfl, b4, hF4, hW4, sk, em, hm⟩
      rcases List.eq_nil_or_concat Wl with rfl | ⟨W', v, rfl⟩
      · refine ⟨_, rfl, _, .inl ⟨_, SqL.of hW4, rfl⟩, ?_⟩
        exact iteF ⟨_, rfl, q _ _ _ (b4.same s3 nx) nF hF4 sk.len (sk.done (fun _ _ => id) hb)⟩
      · rw [List.concat_eq_append] at *
        obtain ⟨hv, sk1⟩ := sk.pop
        have hvn : v < n := by rw [← sk.len]; exact (List.getElem?_eq_some_iff.mp hv).1
        have hva : v < as.length := by omega
        have cF4 := cl F sk.len
        rw [List.length_append] at em
        have em : m = 2 * F.count false + (W'.length + 1) := em
        refine ⟨_, rfl, _, .inl ⟨_, SqL.of hW4, rfl⟩, ?_⟩
        rw [List.map_append]
        have ne : (!((W'.map nV) ++ [v].map nV).isEmpty) = true := by simp
        rw [ne]
        refine iteT ?_
        refine ⟨fun σ' H5 => ∃ m', m' < m ∧ ∃ (y z : Option V) (F : List Bool) (Wl : List Nat), σ' = [some (nV n), some (.ref p), some (nV s), some (.ref F0), some (.ref B0), y, z, some (.ref W0), none] ∧ But (fun x => x = F0 ∨ x = W0) H3 H5 ∧ H5 F0 = some (.lst (F.map V.bl)) ∧ H5 W0 = some (.lst (Wl.map nV)) ∧ Seek ps n s F Wl (fun _ _ => False) ∧ m' = 2 * F.count false + Wl.length ∧ m' ≤ 2 * n + 1, fun _ _ h => h, ?_⟩
        have roA := fun (H5 : Hp) (b5 : But (fun x => x = F0 ∨ x = W0) H3 H5) => ro3.but b5 nB0 nas
        refine ⟨_, rfl, _, rfl, .inl ⟨rfl, _, SqL.of hW4⟩, W0, _, nV v, rfl, rfl, hW4, ?_, ?_⟩
        · rw [List.map_append, List.length_append, List.length_map]
          simp
        have eW : ((W' ++ [v]).map nV).dropLast = W'.map nV := by rw [List.map_append]; simp
        rw [eW]
        have b5 : But (fun x => x = F0 ∨ x = W0) H3 (upd H4 W0 (.lst (W'.map nV))) := b4.trans (But.mut (X := fun x => x = F0 ∨ x = W0) (.inr rfl))
        have hF5 : (upd H4 W0 (.lst (W'.map nV))) F0 = some (.lst (F.map V.bl)) := by rw [upd_ne nWF.symm]; exact hF4
        have hW5 : (upd H4 W0 (.lst (W'.map nV))) W0 = some (.lst (W'.map nV)) := upd_same
        generalize upd H4 W0 (.lst (W'.map nV)) = H5 at b5 hF5 hW5 ⊢
        have ro5 := roA _ b5
        refine ⟨_, _, v, .ref as[v], rfl, rfl, SqL.of ro5.1, atI_nat (rows_get hva), as[v], rfl, ⟨_, SqL.of (ro5.at hva).2⟩, ?_⟩
        refine for_list (K := K) (a := as[v]) (xs := (adj ps v).map nV) (fun j σ' H6 => ∃ (y z : Option V) (F : List Bool) (Wl : List Nat), σ' = [some (nV n), some (.ref p), some (nV s), some (.ref F0), some (.ref B0), y, z, some (.ref W0), none] ∧ But (fun x => x = F0 ∨ x = W0) H3 H6 ∧ H6 F0 = some (.lst (F.map V.bl)) ∧ H6 W0 = some (.lst (Wl.map nV)) ∧ Seek ps n s F Wl (fun x u => x = v ∧ u ∈ (adj ps v).drop j) ∧ F[v]? = some true ∧ 2 * F.count false + Wl.length < m) ?_ ?_ ?_ ?_
        · exact ⟨_, _, _, _, rfl, b5, hF5, hW5, sk1, hv, by omega⟩
        · rintro j σ' H6 hj ⟨y, z, F, Wl, rfl, b6, _⟩
          exact SqL.of ((roA _ b6).at hva).2
        · rintro j x σ' H6 hx ⟨y, z, F, Wl, rfl, b6, hF6, hW6, sk6, hv6, hm6⟩
          rw [List.getElem?_map] at hx
          obtain ⟨u, hu, rfl⟩ := Option.map_eq_some_iff.mp hx
          have hua := List.mem_of_getElem? hu
          have hun : u < n := by
            obtain ⟨e, he, h | h⟩ := mem_adj.mp hua
            · rw [← h.2]; exact (hb e he).2
            · rw [← h.2]; exact (hb e he).1
          have hul : u < F.length := by rw [sk6.len]; exact hun
          have hFu : (F.map V.bl)[u]? = some (.bl F[u]) := getMap hul
          have hFu2 : F[u]? = some F[u] := List.getElem?_eq_getElem hul
          skip
          refine ⟨_, rfl, _, rfl, _, _, u, .bl F[u], rfl, rfl, SqL.of hF6, atI_nat hFu, _, rfl, ?_⟩
          cases hf : F[u] with
          | true =>
            rw [hf] at hFu2
            exact iteF ⟨_, _, F, Wl, rfl, b6, hF6, hW6, sk6.next hu hFu2, hv6, hm6⟩
          | false =>
            rw [hf] at hFu2
            have ct := count_set_true hFu2
            have sk7 := sk6.new hv6 hua hFu2
            refine iteT ⟨_, rfl, _, rfl, F0, _, u, u, rfl, rfl, hF6, Evl.ixN_nat (by rw [List.length_map]; exact hul), ?_⟩
            have hW7 : (upd H6 F0 (.lst ((F.map V.bl).set u (.bl true)))) W0 = some (.lst (Wl.map nV)) := by rw [upd_ne nWF]; exact hW6
            refine ⟨_, rfl, .inl ⟨rfl, _, SqL.of hW7⟩, _, rfl, W0, _, nV u, rfl, rfl, hW7, size_lt (by rw [List.length_map]; omega), ?_⟩
            refine ⟨_, _, F.set u true, Wl ++ [u], rfl, (b6.trans (But.mut (X := fun x => x = F0 ∨ x = W0) (.inl rfl))).trans (But.mut (X := fun x => x = F0 ∨ x = W0) (.inr rfl)), ?_, ?_, sk7.next hu (List.getElem?_set_self hul), ?_, ?_⟩
            · rw [upd_ne nWF.symm, upd_same, List.map_set]
            · rw [upd_same, List.map_append]; rfl
            · by_cases c : u = v
              · rw [c]; exact List.getElem?_set_self (c ▸ hul)
              · rw [List.getElem?_set_ne c]; exact hv6
            · rw [List.length_append]
              show 2 * _ + (_ + 1) < m
              omega
        · rintro σ' H6 ⟨y, z, F, Wl, rfl, b6, hF6, hW6, sk6, hv6, hm6⟩
          rw [List.length_map] at sk6
          exact ⟨_, hm6, _, _, _, _, rfl, b6, hF6, hW6, sk6.last, rfl, by omega⟩
end
end G3

set_option Elab.async false
set_option linter.all false
set_option maxRecDepth 100000
set_option maxHeartbeats 2000000
namespace G3
open PySem PySem.Spec PyProof.Rows L2
/-! ## Graph -/
structure GraphC (K : PySem.W.Frag) (C : Addr) : Prop where
  cls : Cls K C
  n : NoAttr K C "n"
  edges : NoAttr K C "edges"
  genus : NoAttr K C "genus"
  kept : NoAttr K C "kept"
/-- a graph object: its places, its edges in order, its dict of what is kept -/
def GrAt (H : Hp) (C g : Addr) (n : Nat) (es : List Pr) (kd : Addr) : Prop := ∃ (dx eT : Addr) (vs : List V), H g = some (.ins C dx [("n", nV n), ("edges", .ref eT), ("genus", .int ((es.length : Int) - n + 1)), ("kept", .ref kd)]) ∧ H eT = some (.tup vs) ∧ Prs H vs es
theorem GrAt.but {X : Addr → Prop} {H H' : Hp} {C g kd : Addr} {n : Nat} {es : List Pr} (h : GrAt H C g n es kd) (e : But X H H') (hg : ¬ X g) (ht : ∀ t xs, H t = some (.tup xs) → ¬ X t) : GrAt H' C g n es kd := by
  obtain ⟨dx, eT, vs, h1, h2, h3⟩ := h
  exact ⟨dx, eT, vs, e _ _ hg h1, e _ _ (ht _ _ h2) h2, h3.mono fun t a b z => e _ _ (ht _ _ z) z⟩
theorem GrAt.same {H H' : Hp} {C g kd : Addr} {n : Nat} {es : List Pr} (h : GrAt H C g n es kd) (e : Same H H') : GrAt H' C g n es kd :=
  h.but (X := fun _ => False) (Same.but e) id fun _ _ _ => id
theorem Good.reach {n : Nat} {es : List Pr} (h : Good n es) {i : Nat} (hi : i < n) : Reach es 0 i := fun f hf => h.2 f hf i hi
def Lex (es : List Pr) : Prop := es.Pairwise fun a b => a.1 < b.1 ∨ a.1 = b.1 ∧ a.2 ≤ b.2
/-- the pair at a value -/
def prI (H : Hp) : V → Int × Int
  | .ref t => match H t with
    | some (.tup [.int a, .int b]) => (a, b)
    | _ => (0, 0)
  | _ => (0, 0)
def prN (H : Hp) (v : V) : Pr := ((prI H v).1.toNat, (prI H v).2.toNat)
theorem prI_of {H : Hp} {t : Addr} {a b : Nat} (h : H t = some (.tup [nV a, nV b])) : prI H (.ref t) = ((a : Int), (b : Int)) := by
  have h : H t = some (.tup [.int a, .int b]) := h
  simp only [prI, h]
theorem prN_of {H : Hp} {t : Addr} {a b : Nat} (h : H t = some (.tup [nV a, nV b])) : prN H (.ref t) = (a, b) := by
  unfold prN; rw [prI_of h]; rfl
theorem Prs.eq {H : Hp} : ∀ {vs : List V} {ps : List Pr}, Prs H vs ps → ps = vs.map (prN H)
  | [], [], _ => rfl
  | v :: vs, p :: ps, ⟨⟨t, h1, h2⟩, h⟩ => by rw [List.map_cons, ← Prs.eq h, h1, prN_of h2]
  | [], _ :: _, h => h.elim
  | _ :: _, [], h => h.elim
theorem Prs.mem {H : Hp} : ∀ {vs : List V} {ps : List Pr}, Prs H vs ps → ∀ v ∈ vs, ∃ t a b, v = .ref t ∧ H t = some (.tup [nV a, nV b])
  | v :: vs, p :: ps, ⟨⟨t, h1, h2⟩, h⟩, u, hu => by
    rcases List.mem_cons.mp hu with rfl | hu
    · exact ⟨t, _, _, h1, h2⟩
    · exact Prs.mem h u hu
  | [], [], _, _, hu => nomatch hu
  | [], _ :: _, h, _, _ => h.elim
  | _ :: _, [], h, _, _ => h.elim
theorem prs_of {H : Hp} : ∀ {vs : List V}, (∀ v ∈ vs, ∃ t a b, v = .ref t ∧ H t = some (.tup [nV a, nV b])) → Prs H vs (vs.map (prN H))
  | [], _ => True.intro
  | v :: vs, h => by
    obtain ⟨t, a, b, e1, e2⟩ := h v (List.mem_cons_self ..)
    subst e1
    exact ⟨⟨t, rfl, by rw [prN_of e2]; exact e2⟩, prs_of fun u hu => h u (List.mem_cons_of_mem _ hu)⟩
section
variable {P : Program} {w : World} {K : PySem.W.Frag} {mg : Str → Option Value} {base : Heap} {C : Addr}
abbrev n_Graph___init__ : List Str := ["self", "n", "edges", "number", "edge", "reason", "near", "place"]
abbrev p_Graph___init__ : List Str := ["self", "n", "edges"]
theorem sc_Graph___init__ : FnScope n_Graph___init__ p_Graph___init__ (defScope s_Graph___init__) := ⟨rfl, rfl, rfl, by decide +kernel, rfl, by decide +kernel, by decide +kernel⟩
def spGInit (C : Addr) : Sp := fun vs H Q _ => ∃ (x dx l : Addr) (n : Nat) (ws : List V) (es : List Pr), vs = [.ref x, nV n, .ref l] ∧ H x = some (.ins C dx []) ∧ H l = some (.lst ws) ∧ Prs H ws es ∧ Good n es ∧ 1 ≤ n ∧ n ≤ 64 ∧ es.length ≤ 400 ∧
  ∀ (H' : Hp) (es' : List Pr) (kd : Addr), But (· = x) H H' → GrAt H' C x n es' kd → es'.Perm es → Lex es' → H kd = none → H' kd = some (.dK []) → Q .non H'
theorem ok_Graph (D : MkAt K mg "Graph" C "__init__" "Graph.__init__" s_Graph___init__) (B : Bt mg) (G : GraphC K C) (h_is_whole : Has P w K mg base CX0 1 "is_whole" p_is_whole (spIsI K))
    (h_edge_fault : Has P w K mg base CX0 2 "edge_fault" p_edge_fault spEdgeFault) (h_together : Has P w K mg base CX0 1 "together" p_together (spTogether K)) (i64 : ∃ t, mg "MOST_PLACES" = some (.int 64 t)) (i400 : ∃ t, mg "MOST_EDGES" = some (.int 400 t)) :
    HasMk P w K mg base CX0 3 "Graph" C p_Graph___init__ (spGInit C) := by
  refine hasMk_of D sc_Graph___init__ (fun _ _ _ _ _ _ us hl => match us, hl with | [_, _, _], _ => rfl) (fun vs H Q E h => ?_) (fun f cdv A outer s H vs Q E hr h => ?_)
  · obtain ⟨x, dx, l, n, ws, es, rfl, _⟩ := h
    rfl
  · obtain ⟨x, dx, l, n, ws, es, rfl, hx, hl, hws, good, hn1, hn64, he4, q⟩ := h
    refine ⟨_, (pss_cons (ps_if (PW.pt (pw_or (pt_not (pt_val (pe_h h_is_whole hr pass0 (pa_cons (pv 1) pa_nil)))) (pw_or1 (pt_not (pt_chain op_le op_le pe_int (pv 1) (pe_gint i64)))))) (pss_one ps_never) pss_nil)
  (pss_cons (ps_if (PW.pt (pw_or (pt_not (pt_val (pe_callB (isiTK (K := K) rfl) rfl B.isinstance (by decide +kernel) (pa_cons (pv 2) (pa_cons (pe_tup (pa_cons (pe_bltn (v := .ty "tuple") (u := .type "tuple") rfl B.tuple (by decide +kernel) rfl) (pa_cons (pe_bltn (v := .ty "list") (u := .type "list") rfl B.list (by decide +kernel) rfl) pa_nil))) pa_nil))))) (pw_or1 (pt_cmpR op_gt (pe_callB (lenK (K := K) rfl) rfl B.len PySem.boot_len (pa_cons (pv 2) pa_nil)) (pe_gint i400) (nomark _))))) (pss_one ps_never) pss_nil)
  (pss_cons (ps_for PassesOwn.never rfl (pi_enum rfl B.enumerate (pa_cons (pv 2) pa_nil)) (pgT (K := K) (n := 2) rfl rfl (pgs_cons (pg_name (i := 3) sc_Graph___init__.nd rfl (.inl rfl)) (pgs_cons (pg_name (i := 4) sc_Graph___init__.nd rfl (.inl rfl)) pgs_nil))) (pss_cons (ps_set (i := 5) sc_Graph___init__.nd rfl (.inl rfl) (pe_h h_edge_fault hr pass0 (pa_cons (pv 4) (pa_cons (pv 1) pa_nil))))
  (pss_one (ps_if (pt_cmpR op_notN (pv 5) pe_non (nomark _)) (pss_one ps_never) pss_nil))))
  (pss_cons (ps_fld (pv 0) (pv 1) rfl)
  (pss_cons (ps_fld (pv 0) (pe_callTy (tupK (K := K) rfl) rfl B.tuple (by decide +kernel) (pa_cons (pe_callB (sortPK (K := K) rfl) rfl B.sorted (by decide +kernel) (pa_cons (pe_lc (own := [("edge", 4)]) (g := gName 4) (tt := tYes) rfl sc_Graph___init__.nd (piL (K := K) rfl (pv 2)) (blkOk_by (N := n_Graph___init__) (sc := defScope s_Graph___init__) (by decide +kernel)) (fun _ _ _ _ _ => (pg_name (i := 4) sc_Graph___init__.nd rfl (.inl rfl))) (fun _ _ _ _ _ => pts_nil) (fun _ _ _ _ _ => (pe_callTy (tupK (K := K) rfl) rfl B.tuple (by decide +kernel) (pa_cons (pv 4) pa_nil)))) pa_nil)) pa_nil)) rfl)
  (pss_cons (ps_set (i := 6) sc_Graph___init__.nd rfl (.inl rfl) (pe_h h_together hr pass0 (pa_cons (pv 1) (pa_cons (fldK (K := K) rfl (pv 0) rfl) (pa_cons pe_int pa_nil)))))
  (pss_cons (ps_for PassesOwn.never rfl (pi_range1 rfl B.range (pa_cons (pv 1) pa_nil)) (pg_name (i := 7) sc_Graph___init__.nd rfl (.inl rfl)) (pss_one (ps_if (pt_not (pt_val (pe_ix (ixL (K := K) rfl) (pv 6) (pv 7) (fun _ _ => rfl)))) (pss_one ps_never) pss_nil)))
  (pss_cons (ps_fld (pv 0) (pe_op op_add (pe_op op_sub (pe_callB (lenK (K := K) rfl) rfl B.len PySem.boot_len (pa_cons (fldK (K := K) rfl (pv 0) rfl) pa_nil)) (pv 1)) pe_int) rfl)
  (pss_one (ps_fld (pv 0) (pe_dnewK) rfl)))))))))), ?_⟩
    refine ⟨_, rfl, _, _, rfl, .int _, _, rfl, iteF ?_⟩
    refine ⟨_, rfl, _, _, rfl, rfl, _, rfl, ifD (fun _ => ?_) (fun h => absurd (by omega) h)⟩
    refine ⟨_, _, rfl, rfl, _, rfl, ifN (fun h => absurd (by omega) h) (fun _ => ?_)⟩
    -- edges
    refine ⟨_, rfl, by show 2 ≤ sizeLine; decide, fun tp ntp => ?_⟩
    have s1 : Same H (upd H tp (.tup [.ty "tuple", .ty "list"])) := same_upd ntp
    generalize hH1 : upd H tp (.tup [.ty "tuple", .ty "list"]) = H1 at s1
    have htp : H1 tp = some (.tup [.ty "tuple", .ty "list"]) := by rw [← hH1]; exact upd_same
    have hl1 := s1 _ _ hl
    refine ⟨_, tp, _, _, _, true, rfl, htp, .cons (.ty _) (.cons (.ty _) .nil), ty_l (SqL.of hl1), kt_tl (.list []), _, rfl, iteF ?_⟩
    have hlen := hws.len
    refine ⟨_, rfl, _, ws.length, rfl, .inl ⟨_, SqL.of hl1, rfl⟩, _, _, rfl, rfl, _, rfl, ifD (fun h => absurd h (by omega)) fun _ => ?_⟩
    -- for number, edge
    refine ⟨_, rfl, l, ws, rfl, SqL.of hl1, ?_⟩
    refine for_enL (K := K) (a := l) (xs := ws) (fun i σ H' => ∃ (y z u : Option V), σ = [some (.ref x), some (nV n), some (.ref l), y, z, u, none, none] ∧ Same H H') ⟨none, none, none, rfl, s1⟩ (fun i σ H' _ p => by obtain ⟨_, _, _, _, sm⟩ := p; exact SqL.of (sm _ _ hl)) ?_ ?_
    · rintro i v T σ H2 hv ⟨y, z, u, rfl, sm⟩ nT
      have hi : i < es.length := by rw [← hlen]; exact (List.getElem?_eq_some_iff.mp hv).1
      obtain ⟨t, e1, e2⟩ := hws.get hi
      rw [hv] at e1
      obtain rfl := Option.some.inj e1
      obtain ⟨g1, g2⟩ := good.1 _ (List.getElem_mem hi)
      have sT : Same H2 (upd H2 T (.tup [.int (i : Nat), .ref t])) := same_upd nT
      refine ⟨T, _, rfl, SqT.of upd_same, rfl, _, _, rfl, _, _, rfl, rfl, ?_⟩
      refine ⟨_, rfl, _, rfl, t, _, _, n, rfl, sT _ _ (sm _ _ e2), g1, g2, fun H3 sm3 => ?_⟩
      refine ⟨_, rfl, rfl, _, rfl, iteF ?_⟩
      exact ⟨_, _, _, rfl, (sm.trans sT).trans sm3⟩
    rintro σ H2 ⟨y, z0, u, rfl, sm2⟩
    -- self.n
    refine ⟨_, rfl, _, rfl, x, C, dx, [], rfl, sm2 _ _ hx, G.cls, G.n, by decide, ?_⟩
    have hx2 := sm2 _ _ hx
    have b3 : But (· = x) H (upd H2 x (.ins C dx [("n", nV n)])) := (Same.but sm2).trans (But.mut (X := (· = x)) rfl)
    have hx3 : (upd H2 x (.ins C dx [("n", nV n)])) x = some (.ins C dx [("n", nV n)]) := upd_same
    show tSeq _ _ _ _ (upd H2 x (.ins C dx [("n", nV n)]))
    generalize upd H2 x (.ins C dx [("n", nV n)]) = H3 at b3 hx3 ⊢
    have nl : ¬ l = x := fun z => by rw [z, hx] at hl; cases hl
    have nt : ∀ t xs, H t = some (.tup xs) → ¬ t = x := fun t xs e z => by rw [z, hx] at e; cases e
    -- self.edges
    refine ⟨_, rfl, l, rfl, ⟨_, SqL.of (b3 _ _ nl hl)⟩, fun L nL => ?_⟩
    refine lc_list (K := K) (a := l) (xs := ws) (fun i H4 => Same H3 H4 ∧ H4 L = some (.lst (ws.take i))) ⟨same_upd nL, upd_same⟩ (fun i H4 _ p => SqL.of (p.1 _ _ (b3 _ _ nl hl))) ?_ ?_
    · rintro i v H4 hv ⟨sm, hL⟩
      have hi : i < es.length := by rw [← hlen]; exact (List.getElem?_eq_some_iff.mp hv).1
      obtain ⟨t, e1, e2⟩ := hws.get hi
      rw [hv] at e1
      obtain rfl := Option.some.inj e1
      refine ⟨rfl, yes_ ?_⟩
      refine ⟨_, rfl, t, _, rfl, .inr ⟨SqT.of (sm _ _ (b3 _ _ (nt _ _ e2) e2)), ?_⟩⟩
      refine ⟨_, hL, size_lt (by rw [List.length_take]; omega), same_mut sm nL, ?_⟩
      rw [upd_same, List.take_add_one, hv]; rfl
    rintro H4 ⟨sm4, hL⟩
    rw [List.take_length] at hL
    have b4 : But (· = x) H H4 := b3.trans (Same.but sm4)
    have hx4 := sm4 _ _ hx3
    have hws4 : Prs H4 ws es := hws.mono fun t a b e => b4 _ _ (nt _ _ e) e
    refine ⟨L, ws, prI H4, rfl, SqL.of hL, fun v hv => ?_, fun ys p hs hb np => ?_⟩
    · obtain ⟨t, a, b, e1, e2⟩ := hws4.mem v hv
      subst e1
      exact ⟨t, rfl, by rw [prI_of e2]; exact e2⟩
    have lys : ys.length = es.length := by rw [hb.perm.length_eq, hlen]
    refine ⟨p, ys, rfl, .inl ⟨SqL.of upd_same, fun eT nT => ?_⟩⟩
    have s6 : Same H4 (upd (upd H4 p (.lst ys)) eT (.tup ys)) := (same_upd np).trans (same_upd nT)
    have heT : (upd (upd H4 p (.lst ys)) eT (.tup ys)) eT = some (.tup ys) := upd_same
    generalize upd (upd H4 p (.lst ys)) eT (.tup ys) = H6 at s6 heT ⊢
    have hx6 := s6 _ _ hx4
    have b6 : But (· = x) H H6 := b4.trans (Same.but s6)
    have hys6 : Prs H6 ys (ys.map (prN H4)) := (prs_of fun v hv => by
      obtain ⟨t, a, b, e1, e2⟩ := hws4.mem v (hb.perm.mem_iff.mp hv)
      exact ⟨t, a, b, e1, e2⟩ : Prs H4 ys (ys.map (prN H4))).same s6
    have hperm : (ys.map (prN H4)).Perm es := by
      rw [hws4.eq]; exact hb.perm.map _
    have hlex : Lex (ys.map (prN H4)) := by
      refine List.pairwise_map.mpr (List.Pairwise.imp_of_mem (fun {a b} ha hb' h => ?_) hs)
      have h := SrtO.lexB_no.mp h
      obtain ⟨t, a1, a2, rfl, e2⟩ := hws4.mem a (hb.perm.mem_iff.mp ha)
      obtain ⟨t', b1, b2, rfl, e2'⟩ := hws4.mem b (hb.perm.mem_iff.mp hb')
      rw [prI_of e2, prI_of e2'] at h
      rw [prN_of e2, prN_of e2']
      have h : ¬ ((b1 : Int) < (a1 : Int) ∨ (b1 : Int) = a1 ∧ (b2 : Int) < a2) := h
      show a1 < b1 ∨ a1 = b1 ∧ a2 ≤ b2
      omega
    generalize ys.map (prN H4) = es' at hys6 hperm hlex
    have good' := good.perm hperm
    have les : es'.length = es.length := hperm.length_eq
    refine ⟨_, rfl, x, C, dx, _, rfl, hx6, G.cls, G.edges, by show 1 < 1000; decide, ?_⟩
    have b7 : But (· = x) H (upd H6 x (.ins C dx [("n", nV n), ("edges", .ref eT)])) := b6.trans (But.mut (X := (· = x)) rfl)
    have hx7 : (upd H6 x (.ins C dx [("n", nV n), ("edges", .ref eT)])) x = some (.ins C dx [("n", nV n), ("edges", .ref eT)]) := upd_same
    have neT : eT ≠ x := fun z => by rw [z, hx6] at heT; cases heT
    have heT7 : (upd H6 x (.ins C dx [("n", nV n), ("edges", .ref eT)])) eT = some (.tup ys) := by rw [upd_ne neT]; exact heT
    have hys7 : Prs (upd H6 x (.ins C dx [("n", nV n), ("edges", .ref eT)])) ys es' := hys6.mono fun t a b e => by
      have : t ≠ x := fun z => by rw [z, hx6] at e; cases e
      rw [upd_ne this]; exact e
    show tSeq _ _ _ _ (upd H6 x (.ins C dx [("n", nV n), ("edges", .ref eT)]))
    generalize upd H6 x (.ins C dx [("n", nV n), ("edges", .ref eT)]) = H7 at b7 hx7 heT7 hys7 ⊢
    -- near
    refine ⟨_, rfl, _, rfl, x, C, dx, _, _, rfl, hx7, G.cls, G.edges, rfl, ?_⟩
    refine ⟨n, 0, eT, ys, es', rfl, .inr (SqT.of heT7), hys7, fun e he => ?_, by omega, by omega, by omega, fun H8 N F sm8 nN hN lF hF => ?_⟩
    · have := good'.1 e he
      omega
    refine ⟨_, rfl, _, rfl, by omega, by omega, for_range (lo := 0) (n := n) (fun i σ H' => ∃ (z : Option V), σ = [some (.ref x), some (nV n), some (.ref l), y, z0, u, some (.ref N), z] ∧ H' = H8) ?_ ?_ ?_⟩
    · exact ⟨_, rfl, rfl⟩
    · rintro i σ H' hi ⟨z, rfl, rfl⟩
      have hr := (hF i).mpr (good'.reach hi)
      have ei : V.int (0 + (i : Int)) = nV i := by rw [Int.zero_add]
      rw [ei]
      refine ⟨_, rfl, _, rfl, _, _, i, .bl true, rfl, rfl, SqL.of hN, atI_nat (by rw [List.getElem?_map, hr]; rfl), _, rfl, iteF ?_⟩
      exact ⟨_, rfl, rfl⟩
    · rintro σ H' ⟨z, rfl, rfl⟩
      -- genus
      have hx8 := sm8 _ _ hx7
      have heT8 := sm8 _ _ heT7
      have hys8 := hys7.same sm8
      have l8 := hys8.len
      refine ⟨_, rfl, x, C, dx, _, _, rfl, hx8, G.cls, G.edges, rfl, ?_⟩
      refine ⟨_, ys.length, rfl, .inr ⟨_, SqT.of heT8, rfl⟩, ?_⟩
      refine ⟨_, rfl, _, _, rfl, rfl, _, _, rfl, rfl, _, rfl, x, C, dx, _, rfl, hx8, G.cls, G.genus, by show 2 < 1000; decide, ?_⟩
      have eg : V.int ((ys.length : Int) - n + 1) = .int ((es'.length : Int) - n + 1) := by rw [l8]
      intro kd nkd
      have b9 : But (· = x) H (upd H' x (.ins C dx [("n", nV n), ("edges", .ref eT), ("genus", .int ((ys.length : Int) - n + 1))])) := (b7.trans (Same.but sm8)).trans (But.mut (X := (· = x)) rfl)
      have hx9 : (upd H' x (.ins C dx [("n", nV n), ("edges", .ref eT), ("genus", .int ((ys.length : Int) - n + 1))])) x = some (.ins C dx [("n", nV n), ("edges", .ref eT), ("genus", .int ((ys.length : Int) - n + 1))]) := upd_same
      have c9 : But (· = x) H' (upd H' x (.ins C dx [("n", nV n), ("edges", .ref eT), ("genus", .int ((ys.length : Int) - n + 1))])) := But.mut (X := (· = x)) rfl
      have nkd : (upd H' x (.ins C dx [("n", nV n), ("edges", .ref eT), ("genus", .int ((ys.length : Int) - n + 1))])) kd = none := nkd
      show tVar _ _ (upd (upd H' x (.ins C dx [("n", nV n), ("edges", .ref eT), ("genus", .int ((ys.length : Int) - n + 1))])) kd (.dK [])) _
      generalize upd H' x (.ins C dx [("n", nV n), ("edges", .ref eT), ("genus", .int ((ys.length : Int) - n + 1))]) = H9 at b9 hx9 c9 nkd ⊢
      have s10 : Same H9 (upd H9 kd (.dK [])) := same_upd nkd
      have nkx : kd ≠ x := fun z => by rw [z, hx9] at nkd; cases nkd
      refine ⟨_, rfl, x, C, dx, _, rfl, s10 _ _ hx9, G.cls, G.kept, by show 3 < 1000; decide, ?_⟩
      refine q _ es' kd ((b9.trans (Same.but s10)).trans (But.mut (X := (· = x)) rfl)) ⟨dx, eT, ys, ?_, ?_, ?_⟩ hperm hlex ?_ ?_
      · rw [upd_same, ← eg]; rfl
      · rw [upd_ne neT]
        exact s10 _ _ (c9 _ _ neT heT8)
      · refine hys8.mono fun t a b e => ?_
        have : t ≠ x := fun z => by rw [z, hx8] at e; cases e
        rw [upd_ne this]
        exact s10 _ _ (c9 _ _ this e)
      · cases e : H kd with
        | none => rfl
        | some o =>
          rw [b9 _ _ nkx e] at nkd
          cases nkd
      · rw [upd_ne nkx]; exact upd_same
end
end G3

set_option Elab.async false
set_option linter.all false
set_option maxRecDepth 100000
set_option maxHeartbeats 1000000
namespace G3
open PySem PySem.Spec PyProof.Rows L2
/-! ## orientations without rings: plain laws -/
/-- where an edge leads, by its sign -/
def lead (w : Int) (e : Pr) : Pr := if w = 1 then e else (e.2, e.1)
def leads (ws : List Int) (es : List Pr) : List Pr := List.zipWith lead ws es
/-- ranks that grow along each lead -/
def Ranked (ls : List Pr) : Prop := ∃ f : Nat → Nat, ∀ l ∈ ls, f l.1 < f l.2
theorem Ranked.nil : Ranked [] := ⟨fun _ => 0, fun _ h => nomatch h⟩
theorem Ranked.tail {l : Pr} {ls : List Pr} (h : Ranked (l :: ls)) : Ranked ls := by
  obtain ⟨f, hf⟩ := h
  exact ⟨f, fun x hx => hf x (List.mem_cons_of_mem _ hx)⟩
theorem Ranked.loop {a : Nat} {ls : List Pr} : ¬ Ranked ((a, a) :: ls) := fun ⟨f, hf⟩ => absurd (hf (a, a) (List.mem_cons_self ..)) (Nat.lt_irrefl _)
/-- at least one of both ways -/
theorem ranked_one {a b : Nat} {ls : List Pr} (ne : a ≠ b) (h : Ranked ls) : Ranked ((a, b) :: ls) ∨ Ranked ((b, a) :: ls) := by
  obtain ⟨f, hf⟩ := h
  by_cases c : f b < f a
  · refine .inr ⟨f, fun x hx => ?_⟩
    rcases List.mem_cons.mp hx with rfl | hx
    · exact c
    · exact hf x hx
  · refine .inl ⟨fun x => 2 * f x + (if x = b then 1 else 0), fun x hx => ?_⟩
    rcases List.mem_cons.mp hx with rfl | hx
    · show 2 * f a + (if a = b then 1 else 0) < 2 * f b + (if b = b then 1 else 0)
      rw [if_neg ne, if_pos rfl]
      omega
    · have := hf x hx
      show 2 * f x.1 + (if x.1 = b then 1 else 0) < 2 * f x.2 + (if x.2 = b then 1 else 0)
      split <;> split <;> omega
/-- b put on a -/
def put1 (a b x : Nat) : Nat := if x = b then a else x
def putE (a b : Nat) (e : Pr) : Pr := (put1 a b e.1, put1 a b e.2)
theorem ranked_eq {a b : Nat} {ls : List Pr} (f : Nat → Nat) (hf : ∀ l ∈ ls, f l.1 < f l.2) (e : f a = f b) (ne : a ≠ b) : Ranked ((a, b) :: ls) ∧ Ranked ((b, a) :: ls) := by
  constructor
  · refine ⟨fun x => 2 * f x + (if x = b then 1 else 0), fun x hx => ?_⟩
    rcases List.mem_cons.mp hx with rfl | hx
    · show 2 * f a + (if a = b then 1 else 0) < 2 * f b + (if b = b then 1 else 0)
      rw [if_neg ne, if_pos rfl]
      omega
    · have := hf x hx
      show 2 * f x.1 + (if x.1 = b then 1 else 0) < 2 * f x.2 + (if x.2 = b then 1 else 0)
      split <;> split <;> omega
  · refine ⟨fun x => 2 * f x + (if x = a then 1 else 0), fun x hx => ?_⟩
    rcases List.mem_cons.mp hx with rfl | hx
    · show 2 * f b + (if b = a then 1 else 0) < 2 * f a + (if a = a then 1 else 0)
      rw [if_neg (fun z => ne z.symm), if_pos rfl]
      omega
    · have := hf x hx
      show 2 * f x.1 + (if x.1 = a then 1 else 0) < 2 * f x.2 + (if x.2 = a then 1 else 0)
      split <;> split <;> omega
/-- both ways just if it is without rings when both ends are put together -/
theorem ranked_both {a b : Nat} {ls : List Pr} (ne : a ≠ b) : (Ranked ((a, b) :: ls) ∧ Ranked ((b, a) :: ls)) ↔ Ranked (ls.map (putE a b)) := by
  constructor
  · rintro ⟨⟨f, hf⟩, ⟨g, hg⟩⟩
    have fa : f a < f b := hf (a, b) (List.mem_cons_self ..)
    have gb : g b < g a := hg (b, a) (List.mem_cons_self ..)
    refine ⟨fun x => (g a - g b) * f x + (f b - f a) * g x, fun l hl => ?_⟩
    obtain ⟨x, hx, rfl⟩ := List.mem_map.mp hl
    have h1 := hf x (List.mem_cons_of_mem _ hx)
    have h2 := hg x (List.mem_cons_of_mem _ hx)
    have p1 : 0 < g a - g b := by omega
    have p2 : 0 < f b - f a := by omega
    have same : (g a - g b) * f b + (f b - f a) * g b = (g a - g b) * f a + (f b - f a) * g a := by
      obtain ⟨k, hk⟩ : ∃ k, f b = f a + k := ⟨f b - f a, by omega⟩
      obtain ⟨j, hj⟩ : ∃ j, g a = g b + j := ⟨g a - g b, by omega⟩
      have e1 : g a - g b = j := by omega
      have e2 : f b - f a = k := by omega
      rw [e1, e2, hk, hj, Nat.mul_add, Nat.mul_add, Nat.mul_comm k j]
      omega
    have val : ∀ y, (g a - g b) * f (put1 a b y) + (f b - f a) * g (put1 a b y) = (g a - g b) * f y + (f b - f a) * g y := fun y => by
      unfold put1
      by_cases c : y = b
      · rw [if_pos c, c, same]
      · rw [if_neg c]
    show (g a - g b) * f (put1 a b x.1) + (f b - f a) * g (put1 a b x.1) < (g a - g b) * f (put1 a b x.2) + (f b - f a) * g (put1 a b x.2)
    rw [val, val]
    exact Nat.add_lt_add ((Nat.mul_lt_mul_left p1).mpr h1) ((Nat.mul_lt_mul_left p2).mpr h2)
  · rintro ⟨f, hf⟩
    refine ranked_eq (fun x => f (put1 a b x)) (fun l hl => hf _ (List.mem_map.mpr ⟨l, hl, rfl⟩)) ?_ ne
    show f (put1 a b a) = f (put1 a b b)
    unfold put1
    rw [if_neg ne, if_pos rfl]
end G3

set_option Elab.async false
set_option linter.all false
set_option maxRecDepth 100000
set_option maxHeartbeats 1000000
namespace G3
open PySem PySem.Spec PyProof.Rows L2
/-! ## counting orientations without rings -/
def waysL : Nat → List (List Int)
  | 0 => [[]]
  | m + 1 => (waysL m).map (fun r => r ++ [1]) ++ (waysL m).map fun r => r ++ [-1]
theorem waysL_len : ∀ (m : Nat) (r : List Int), r ∈ waysL m → r.length = m
  | 0, r, h => by rw [List.mem_singleton.mp h]; rfl
  | m + 1, r, h => by
    rcases List.mem_append.mp h with h | h <;> obtain ⟨x, hx, rfl⟩ := List.mem_map.mp h <;> rw [List.length_append, waysL_len m x hx] <;> rfl
theorem waysL_one : ∀ (m : Nat) (r : List Int), r ∈ waysL m → ∀ x ∈ r, x = 1 ∨ x = -1
  | 0, r, h, x, hx => by rw [List.mem_singleton.mp h] at hx; cases hx
  | m + 1, r, h, x, hx => by
    rcases List.mem_append.mp h with h | h <;> obtain ⟨y, hy, rfl⟩ := List.mem_map.mp h <;> rcases List.mem_append.mp hx with hx | hx
    · exact waysL_one m y hy x hx
    · exact .inl (List.mem_singleton.mp hx)
    · exact waysL_one m y hy x hx
    · exact .inr (List.mem_singleton.mp hx)
theorem waysL_many : ∀ m : Nat, (waysL m).length = 2 ^ m
  | 0 => rfl
  | m + 1 => by
    show ((waysL m).map _ ++ (waysL m).map _).length = _
    rw [List.length_append, List.length_map, List.length_map, waysL_many m, Nat.pow_succ]
    omega
def sumW (m : Nat) (φ : List Int → Int) : Int := ((waysL m).map φ).sum
theorem sum_app2 (l k : List Int) : (l ++ k).sum = l.sum + k.sum := by
  induction l with
  | nil => show k.sum = 0 + k.sum; omega
  | cons a l ih => rw [List.cons_append, List.sum_cons, List.sum_cons, ih]; omega
theorem sumW_succ (m : Nat) (φ : List Int → Int) : sumW (m + 1) φ = sumW m (fun r => φ (r ++ [1])) + sumW m fun r => φ (r ++ [-1]) := by
  show (((waysL m).map (fun r => r ++ [1]) ++ (waysL m).map fun r => r ++ [-1]).map φ).sum = _
  rw [List.map_append, sum_app2, List.map_map, List.map_map]; rfl
theorem sumW_cons : ∀ (m : Nat) (φ : List Int → Int), sumW (m + 1) φ = sumW m (fun r => φ (1 :: r)) + sumW m fun r => φ (-1 :: r)
  | 0, φ => by rw [sumW_succ]; rfl
  | m + 1, φ => by
    rw [sumW_succ, sumW_cons m, sumW_cons m, sumW_succ m (fun r => φ (1 :: r)), sumW_succ m (fun r => φ (-1 :: r))]
    show _ + _ + (_ + _) = _ + _ + (_ + _)
    have : ∀ a b c d : Int, a + b + (c + d) = a + c + (b + d) := fun a b c d => by omega
    exact this _ _ _ _
theorem sumW_add (m : Nat) (φ ψ : List Int → Int) : sumW m (fun r => φ r + ψ r) = sumW m φ + sumW m ψ := by
  unfold sumW
  generalize waysL m = l
  induction l with
  | nil => rfl
  | cons a l ih => rw [List.map_cons, List.map_cons, List.map_cons, List.sum_cons, List.sum_cons, List.sum_cons, ih]; omega
theorem sumW_congr (m : Nat) {φ ψ : List Int → Int} (h : ∀ r ∈ waysL m, φ r = ψ r) : sumW m φ = sumW m ψ := by
  unfold sumW
  rw [List.map_congr_left h]
theorem sumW_zero (m : Nat) : sumW m (fun _ => 0) = 0 := by
  unfold sumW
  generalize waysL m = l
  induction l with
  | nil => rfl
  | cons a l ih => rw [List.map_cons, List.sum_cons, ih]; rfl
open Classical in
noncomputable def rk (ls : List Pr) : Int := if Ranked ls then 1 else 0
theorem rk_yes {ls : List Pr} (h : Ranked ls) : rk ls = 1 := by unfold rk; rw [if_pos h]
theorem rk_no {ls : List Pr} (h : ¬ Ranked ls) : rk ls = 0 := by unfold rk; rw [if_neg h]
/-- how many of the ways are without rings -/
noncomputable def cntA (es : List Pr) : Int := sumW es.length fun ws => rk (leads ws es)
theorem cntA_nil : cntA [] = 1 := by
  show sumW 0 (fun ws => rk (leads ws [])) = 1
  show ([[]].map fun ws => rk (leads ws [])).sum = 1
  show rk (leads [] []) + 0 = 1
  rw [rk_yes (show Ranked (leads [] []) from Ranked.nil)]
  rfl
theorem lead_put (a b : Nat) (w : Int) (e : Pr) : lead w (putE a b e) = putE a b (lead w e) := by
  unfold lead
  by_cases c : w = 1
  · rw [if_pos c, if_pos c]
  · rw [if_neg c, if_neg c]; rfl
theorem leads_put (a b : Nat) : ∀ (ws : List Int) (es : List Pr), leads ws (es.map (putE a b)) = (leads ws es).map (putE a b)
  | [], es => by unfold leads; simp
  | w :: ws, [] => rfl
  | w :: ws, e :: es => by
    show lead w (putE a b e) :: leads ws (es.map (putE a b)) = putE a b (lead w e) :: (leads ws es).map (putE a b)
    rw [lead_put, leads_put a b ws es]
theorem loop_in {es : List Pr} {a : Nat} (h : (a, a) ∈ es) : ∀ {ws : List Int}, ws.length = es.length → (a, a) ∈ leads ws es := by
  induction es with
  | nil => cases h
  | cons e es ih =>
    intro ws hl
    cases ws with
    | nil => cases hl
    | cons w ws =>
      show (a, a) ∈ lead w e :: leads ws es
      rcases List.mem_cons.mp h with rfl | h
      · have : lead w (a, a) = (a, a) := by unfold lead; split <;> rfl
        rw [this]
        exact List.mem_cons_self ..
      · exact List.mem_cons_of_mem _ (ih h (by simpa using hl))
theorem cntA_loop {es : List Pr} {a : Nat} (h : (a, a) ∈ es) : cntA es = 0 := by
  unfold cntA
  rw [sumW_congr es.length (ψ := fun _ => 0) fun ws hws => rk_no fun ⟨f, hf⟩ => absurd (hf _ (loop_in h (waysL_len _ _ hws))) (Nat.lt_irrefl _)]
  exact sumW_zero _
theorem cntA_cons {a b : Nat} {es : List Pr} (ne : a ≠ b) : cntA ((a, b) :: es) = cntA es + cntA (es.map (putE a b)) := by
  show sumW (es.length + 1) (fun ws => rk (leads ws ((a, b) :: es))) = _
  rw [sumW_cons]
  have e2 : cntA (es.map (putE a b)) = sumW es.length fun ws => rk ((leads ws es).map (putE a b)) := by
    unfold cntA
    rw [List.length_map]
    exact sumW_congr _ fun ws _ => by rw [leads_put]
  rw [e2]
  unfold cntA
  rw [← sumW_add, ← sumW_add]
  refine sumW_congr _ fun ws _ => ?_
  show rk ((a, b) :: leads ws es) + rk ((b, a) :: leads ws es) = rk (leads ws es) + rk ((leads ws es).map (putE a b))
  have both := ranked_both (ls := leads ws es) ne
  by_cases c1 : Ranked ((a, b) :: leads ws es)
  · by_cases c2 : Ranked ((b, a) :: leads ws es)
    · rw [rk_yes c1, rk_yes c2, rk_yes c1.tail, rk_yes (both.mp ⟨c1, c2⟩)]
    · rw [rk_yes c1, rk_no c2, rk_yes c1.tail, rk_no fun z => c2 (both.mpr z).2]
  · by_cases c2 : Ranked ((b, a) :: leads ws es)
    · rw [rk_no c1, rk_yes c2, rk_yes c2.tail, rk_no fun z => c1 (both.mpr z).1]
      rfl
    · have c3 : ¬ Ranked (leads ws es) := fun z => (ranked_one ne z).elim c1 c2
      rw [rk_no c1, rk_no c2, rk_no c3, rk_no fun z => c1 (both.mpr z).1]
end G3

set_option Elab.async false
set_option linter.all false
set_option maxRecDepth 100000
set_option maxHeartbeats 1000000
namespace G3
open PySem PySem.Spec PyProof.Rows L2
/-! ## the first order in which all leads go on -/
def busy (left : List Nat) (ls : List Pr) (p : Nat) : Bool := ls.any fun l => decide (l.2 = p) && left.contains l.1
def freeL (left : List Nat) (ls : List Pr) : List Nat := left.filter fun p => !busy left ls p
def ordF : Nat → List Nat → List Pr → Option (List Nat)
  | 0, _, _ => some []
  | k + 1, left, ls => match freeL left ls with
    | [] => none
    | p :: _ => (ordF k (left.erase p) ls).map fun o => p :: o
def ordA (n : Nat) (ls : List Pr) : Option (List Nat) := ordF n (List.range n) ls
theorem freeL_mem {left : List Nat} {ls : List Pr} {p : Nat} : p ∈ freeL left ls ↔ p ∈ left ∧ ∀ l ∈ ls, l.2 = p → l.1 ∉ left := by
  unfold freeL busy
  rw [List.mem_filter]
  constructor
  · rintro ⟨h1, h2⟩
    refine ⟨h1, fun l hl e hm => ?_⟩
    have : (ls.any fun l => decide (l.2 = p) && left.contains l.1) = true := List.any_eq_true.mpr ⟨l, hl, by rw [decide_eq_true e, Bool.true_and]; exact List.contains_iff_mem.mpr hm⟩
    rw [this] at h2
    cases h2
  · rintro ⟨h1, h2⟩
    refine ⟨h1, ?_⟩
    have : (ls.any fun l => decide (l.2 = p) && left.contains l.1) = false := List.any_eq_false.mpr fun l hl z => by
      obtain ⟨z1, z2⟩ := Bool.and_eq_true_iff.mp z
      exact h2 l hl (of_decide_eq_true z1) (List.contains_iff_mem.mp z2)
    rw [this]; rfl
theorem ordF_perm : ∀ (k : Nat) (left : List Nat) (ls : List Pr) (o : List Nat), left.length = k → ordF k left ls = some o → o.Perm left
  | 0, left, ls, o, hl, h => by
    cases (Option.some.inj h)
    rw [List.length_eq_zero_iff.mp hl]
  | k + 1, left, ls, o, hl, h => by
    unfold ordF at h
    cases hf : freeL left ls with
    | nil => rw [hf] at h; cases h
    | cons p r =>
      rw [hf] at h
      obtain ⟨o', h1, rfl⟩ := Option.map_eq_some_iff.mp h
      have hp : p ∈ left := (freeL_mem.mp (hf ▸ List.mem_cons_self ..)).1
      have ih := ordF_perm k (left.erase p) ls o' (by rw [List.length_erase_of_mem hp, hl]; rfl) h1
      exact (ih.cons p).trans (List.perm_cons_erase hp).symm
/-- each lead within left goes on in r -/
def Topo (left : List Nat) (ls : List Pr) (r : List Nat) : Prop := ∀ l ∈ ls, l.1 ∈ left → l.2 ∈ left → r.idxOf l.1 < r.idxOf l.2
theorem idx_cons_ne {p x : Nat} {o : List Nat} (h : x ≠ p) : (p :: o).idxOf x = o.idxOf x + 1 := by
  rw [List.idxOf_cons]
  have : (p == x) = false := beq_eq_false_iff_ne.mpr (fun z => h z.symm)
  rw [this]; rfl
theorem ordF_topo : ∀ (k : Nat) (left : List Nat) (ls : List Pr) (o : List Nat), left.length = k → left.Nodup → ordF k left ls = some o → Topo left ls o
  | 0, left, ls, o, hl, hn, h => fun l hl1 h1 h2 => by
    rw [List.length_eq_zero_iff.mp hl] at h1; cases h1
  | k + 1, left, ls, o, hl, hn, h => by
    unfold ordF at h
    cases hf : freeL left ls with
    | nil => rw [hf] at h; cases h
    | cons p r =>
      rw [hf] at h
      obtain ⟨o', h1, rfl⟩ := Option.map_eq_some_iff.mp h
      obtain ⟨hp, hfree⟩ := freeL_mem.mp (hf ▸ List.mem_cons_self (a := p) (l := r))
      have ih := ordF_topo k (left.erase p) ls o' (by rw [List.length_erase_of_mem hp, hl]; rfl) (hn.erase p) h1
      intro l hl1 m1 m2
      have n2 : l.2 ≠ p := fun z => hfree l hl1 z m1
      by_cases c : l.1 = p
      · rw [c, idx_cons_ne n2, List.idxOf_cons_self]
        omega
      · rw [idx_cons_ne c, idx_cons_ne n2]
        have := ih l hl1 ((List.mem_erase_of_ne c).mpr m1) ((List.mem_erase_of_ne n2).mpr m2)
        omega
theorem min_rank (f : Nat → Nat) : ∀ (l : List Nat), l ≠ [] → ∃ p ∈ l, ∀ x ∈ l, f p ≤ f x
  | [], h => absurd rfl h
  | [a], _ => ⟨a, List.mem_cons_self .., fun x hx => by rw [List.mem_singleton.mp hx]; exact Nat.le_refl _⟩
  | a :: b :: l, _ => by
    obtain ⟨p, hp, h⟩ := min_rank f (b :: l) (by simp)
    by_cases c : f a ≤ f p
    · exact ⟨a, List.mem_cons_self .., fun x hx => by
        rcases List.mem_cons.mp hx with rfl | hx
        · exact Nat.le_refl _
        · exact Nat.le_trans c (h x hx)⟩
    · exact ⟨p, List.mem_cons_of_mem _ hp, fun x hx => by
        rcases List.mem_cons.mp hx with rfl | hx
        · omega
        · exact h x hx⟩
theorem ordF_some {ls : List Pr} (h : Ranked ls) : ∀ (k : Nat) (left : List Nat), left.length = k → ∃ o, ordF k left ls = some o
  | 0, left, _ => ⟨[], rfl⟩
  | k + 1, left, hl => by
    obtain ⟨f, hf⟩ := h
    obtain ⟨p, hp, hm⟩ := min_rank f left (by intro z; rw [z] at hl; cases hl)
    have hfree : p ∈ freeL left ls := freeL_mem.mpr ⟨hp, fun l hl1 e m => by
      have h1 := hf l hl1
      have h2 := hm _ m
      rw [e] at h1
      omega⟩
    cases hF : freeL left ls with
    | nil => rw [hF] at hfree; cases hfree
    | cons q r =>
      have hq : q ∈ left := (freeL_mem.mp (hF ▸ List.mem_cons_self (a := q) (l := r))).1
      obtain ⟨o, ho⟩ := ordF_some ⟨f, hf⟩ k (left.erase q) (by rw [List.length_erase_of_mem hq, hl]; rfl)
      refine ⟨q :: o, ?_⟩
      unfold ordF
      rw [hF]
      show (ordF k (left.erase q) ls).map _ = _
      rw [ho]; rfl
theorem ordA_iff {n : Nat} {ls : List Pr} (hb : ∀ l ∈ ls, l.1 < n ∧ l.2 < n) : (ordA n ls).isSome = true ↔ Ranked ls := by
  constructor
  · intro h
    obtain ⟨o, ho⟩ := Option.isSome_iff_exists.mp h
    refine ⟨fun x => o.idxOf x, fun l hl => ?_⟩
    have := hb l hl
    exact ordF_topo n (List.range n) ls o List.length_range List.nodup_range ho l hl (List.mem_range.mpr this.1) (List.mem_range.mpr this.2)
  · intro h
    obtain ⟨o, ho⟩ := ordF_some h n (List.range n) List.length_range
    unfold ordA
    rw [ho]; rfl
theorem rk_ord {n : Nat} {ls : List Pr} (hb : ∀ l ∈ ls, l.1 < n ∧ l.2 < n) : rk ls = if (ordA n ls).isSome = true then 1 else 0 := by
  by_cases c : Ranked ls
  · rw [rk_yes c, if_pos ((ordA_iff hb).mpr c)]
  · rw [rk_no c, if_neg fun z => c ((ordA_iff hb).mp z)]
/-! ### the least one -/
def ltN : List Nat → List Nat → Prop
  | [], [] => False
  | [], _ :: _ => True
  | _ :: _, [] => False
  | a :: as, b :: bs => a < b ∨ (a = b ∧ ltN as bs)
theorem ltN_irr : ∀ l : List Nat, ¬ ltN l l
  | [], h => h
  | a :: l, h => by
    rcases h with h | ⟨_, h⟩
    · exact absurd h (Nat.lt_irrefl a)
    · exact ltN_irr l h
theorem ordF_least {ls : List Pr} : ∀ (k : Nat) (left o r : List Nat), left.length = k → left.Pairwise (· < ·) → ordF k left ls = some o → r.Perm left → Topo left ls r → o = r ∨ ltN o r
  | 0, left, o, r, hl, _, h, hp, _ => by
    cases (Option.some.inj h)
    rw [List.length_eq_zero_iff.mp hl] at hp
    exact .inl (List.Perm.eq_nil hp).symm
  | k + 1, left, o, r, hl, hs, h, hp, ht => by
    unfold ordF at h
    cases hf : freeL left ls with
    | nil => rw [hf] at h; cases h
    | cons p q =>
      rw [hf] at h
      obtain ⟨o', h1, rfl⟩ := Option.map_eq_some_iff.mp h
      have hn : left.Nodup := hs.imp fun h => Nat.ne_of_lt h
      obtain ⟨hpl, hfree⟩ := freeL_mem.mp (hf ▸ List.mem_cons_self (a := p) (l := q))
      cases r with
      | nil => exact absurd hp.length_eq (by rw [hl]; simp)
      | cons x r' =>
        have hx : x ∈ left := hp.mem_iff.mp (List.mem_cons_self ..)
        have hrn : (x :: r').Nodup := hp.nodup_iff.mpr hn
        have hxf : x ∈ freeL left ls := freeL_mem.mpr ⟨hx, fun l hl1 e m => by
          have h2 := ht l hl1 m (by rw [e]; exact hx)
          rw [e, List.idxOf_cons_self] at h2
          omega⟩
        have hsorted : (p :: q).Pairwise (· < ·) := by
          rw [← hf]
          exact hs.filter _
        have hpx : p ≤ x := by
          rw [hf] at hxf
          rcases List.mem_cons.mp hxf with rfl | hxf
          · exact Nat.le_refl _
          · exact Nat.le_of_lt ((List.pairwise_cons.mp hsorted).1 x hxf)
        by_cases c : p = x
        · subst c
          have hp' : r'.Perm (left.erase p) := by
            have := hp.erase p
            rwa [List.erase_cons_head] at this
          have ht' : Topo (left.erase p) ls r' := fun l hl1 m1 m2 => by
            have n1 : l.1 ≠ p := fun z => by rw [z] at m1; exact (hn.not_mem_erase) m1
            have n2 : l.2 ≠ p := fun z => by rw [z] at m2; exact (hn.not_mem_erase) m2
            have := ht l hl1 (List.mem_of_mem_erase m1) (List.mem_of_mem_erase m2)
            rw [idx_cons_ne n1, idx_cons_ne n2] at this
            omega
          rcases ordF_least k (left.erase p) o' r' (by rw [List.length_erase_of_mem hpl, hl]; rfl) (hs.erase p) h1 hp' ht' with e | e
          · exact .inl (by rw [e])
          · exact .inr (.inr ⟨rfl, e⟩)
        · exact .inr (.inl (by omega))
end G3

set_option Elab.async false
set_option linter.all false
set_option maxRecDepth 100000
set_option maxHeartbeats 2000000
namespace G3
open PySem PySem.Spec PyProof.Rows L2
/-! ## a row of ones and minus ones is told, or refused -/
/-- what a row is good for: n numbers that are let, or the first wrong place, or nothing -/
inductive RowP (p : PyData → Bool) (K : PySem.W.Frag) (H : Hp) (v : V) (n : Nat) : V → List Int → Prop
  | good {a : Addr} {ns : List Int} (e : v = .ref a) (h : SqL K H a (ns.map V.int) ∨ SqT K H a (ns.map V.int)) (hl : ns.length = n) (hp : ∀ z ∈ ns, p (.int z) = true) : RowP p K H v n (.bl true) ns
  | kind {d : PyData} (h : TyX K H v (.type (tyN d))) (hd : isSeqD d = false) : RowP p K H v n .non []
  | long {a : Addr} {xs : List V} (e : v = .ref a) (h : SqL K H a xs ∨ SqT K H a xs) (hl : xs.length ≠ n) : RowP p K H v n .non []
  | bad {a : Addr} {xs : List V} {ds : List PyData} {k : Nat} (e : v = .ref a) (h : SqL K H a xs ∨ SqT K H a xs) (hd : DpAll K H xs ds) (hl : ds.length = n) (hk : k < n) (h1 : ∀ j d, j < k → ds[j]? = some d → p d = true) (h2 : ∀ d, ds[k]? = some d → p d = false) : RowP p K H v n (nV k) []
theorem RowP.same {p : PyData → Bool} {K : PySem.W.Frag} {H H' : Hp} {v r : V} {n : Nat} {ns : List Int} (e : Same H H') (h : RowP p K H v n r ns) : RowP p K H' v n r ns := by
  cases h with
  | good e1 h hl hp => exact .good e1 (h.imp e.seq (Same.seqT e)) hl hp
  | kind h hd => exact .kind (tyx_same e h) hd
  | long e1 h hl => exact .long e1 (h.imp e.seq (Same.seqT e)) hl
  | bad e1 h hd hl hk h1 h2 => exact .bad e1 (h.imp e.seq (Same.seqT e)) (DpAll.same e hd) hl hk h1 h2
theorem rowP_cases {p : PyData → Bool} {K : PySem.W.Frag} {H : Hp} {v r : V} {n : Nat} {ns : List Int} (hv : RowP p K H v n r ns) :
    (∃ (a : Addr) (xs : List V) (ds : List PyData), v = .ref a ∧ (SqL K H a xs ∨ SqT K H a xs) ∧ DpAll K H xs ds ∧ ds.length = n ∧
      (∀ k : Nat, k < n → (∀ (j : Nat) (d : PyData), j < k → ds[j]? = some d → p d = true) → (∀ d : PyData, ds[k]? = some d → p d = false) → r = nV k) ∧ ((∀ (j : Nat) (d : PyData), ds[j]? = some d → p d = true) → r = .bl true ∧ xs = ns.map V.int)) ∨
    (r = .non ∧ ∃ d, TyX K H v (.type (tyN d)) ∧ isSeqD d = false) ∨ (r = .non ∧ ∃ (a : Addr) (xs : List V), v = .ref a ∧ (SqL K H a xs ∨ SqT K H a xs) ∧ xs.length ≠ n) := by
  cases hv with
  | @good a ns e h hl hp =>
    refine .inl ⟨a, _, ns.map PyData.int, e, h, dpAll_ints ns, by rw [List.length_map, hl], fun k hk h1 h2 => ?_, fun _ => ⟨rfl, rfl⟩⟩
    have : k < ns.length := by omega
    have := h2 (.int ns[k]) (by rw [List.getElem?_map, List.getElem?_eq_getElem this]; rfl)
    rw [hp _ (List.getElem_mem _)] at this
    cases this
  | @bad a xs ds k e h hd hl hk h1 h2 =>
    refine .inl ⟨a, xs, ds, e, h, hd, hl, fun k' hk' h1' h2' => ?_, fun hall => ?_⟩
    · have hk2 : k < ds.length := by omega
      have hk3 : k' < ds.length := by omega
      by_cases c : k < k'
      · have a1 := h1' k _ c (List.getElem?_eq_getElem hk2)
        rw [h2 _ (List.getElem?_eq_getElem hk2)] at a1; cases a1
      · by_cases c2 : k' < k
        · have a1 := h1 k' _ c2 (List.getElem?_eq_getElem hk3)
          rw [h2' _ (List.getElem?_eq_getElem hk3)] at a1; cases a1
        · have : k = k' := by omega
          rw [this]
    · have hk2 : k < ds.length := by omega
      have a1 := hall k _ (List.getElem?_eq_getElem hk2)
      rw [h2 _ (List.getElem?_eq_getElem hk2)] at a1; cases a1
  | @kind d h hd => exact .inr (.inl ⟨rfl, d, h, hd⟩)
  | @long a xs e h hl => exact .inr (.inr ⟨rfl, a, xs, e, h, hl⟩)
def isSign : PyData → Bool
  | .int z => decide (z = 1) || decide (z = -1)
  | _ => false
theorem isSign_iff {z : Int} : isSign (.int z) = true ↔ z = 1 ∨ z = -1 := by
  unfold isSign
  rw [Bool.or_eq_true, decide_eq_true_iff, decide_eq_true_iff]
theorem row_tyP {K : PySem.W.Frag} {H : Hp} {a : Addr} {xs : List V} (h : SqL K H a xs ∨ SqT K H a xs) : ∃ d, TyX K H (.ref a) (.type (tyN d)) ∧ isSeqD d = true := by
  rcases h with h | h
  · exact ⟨.list [], ty_l h, rfl⟩
  · exact ⟨.tuple [], ty_t h, rfl⟩
theorem row_lenP {K : PySem.W.Frag} {H : Hp} {a : Addr} {xs : List V} (h : SqL K H a xs ∨ SqT K H a xs) : LenV K (.ref a) H xs.length := h.imp (fun h => ⟨_, h, rfl⟩) fun h => ⟨_, h, rfl⟩
theorem sgn_in {z : Int} : inV (.int z) [.int 1, .int (-1)] = isSign (.int z) := by
  unfold isSign
  show (_ || (_ || false)) = _
  rw [Bool.or_false]
  congr 1
  · exact decide_eq_decide.mpr eq_comm
  · exact decide_eq_decide.mpr eq_comm
/-- a graph with its measures -/
def Gk (H : Hp) (C g : Addr) (n : Nat) (es : List Pr) : Prop := (∃ kd, GrAt H C g n es kd) ∧ Good n es ∧ 1 ≤ n ∧ n ≤ 64 ∧ es.length ≤ 400 ∧ Lex es
theorem Gk.same {H H' : Hp} {C g : Addr} {n : Nat} {es : List Pr} (h : Gk H C g n es) (e : Same H H') : Gk H' C g n es := ⟨h.1.imp fun _ h => h.same e, h.2⟩
section
variable {P : Program} {w : World} {K : PySem.W.Frag} {mg : Str → Option Value} {base : Heap} {C : Addr}
abbrev n_told_orientation : List Str := ["graph", "orientation", "number", "sign"]
abbrev p_told_orientation : List Str := ["graph", "orientation"]
theorem sc_told_orientation : FnScope n_told_orientation p_told_orientation (defScope s_told_orientation) := ⟨rfl, rfl, rfl, by decide +kernel, rfl, by decide +kernel, by decide +kernel⟩
def spOri (K : PySem.W.Frag) (C CB : Addr) : Sp := fun vs H Q E => ∃ (g : Addr) (n : Nat) (es : List Pr) (v r : V) (ns : List Int), vs = [.ref g, v] ∧ Gk H C g n es ∧ RowP isSign K H v es.length r ns ∧
  (∀ (H' : Hp) (l : Addr), Same H H' → r = .bl true → SqT K H' l (ns.map V.int) → Q (.ref l) H') ∧ (∀ (H' : Hp) (l : Addr), Same H H' → H l = none → r ≠ .bl true → H' l = some (.xd [("number", r)]) → E (.ref CB) (some l) H')
theorem ok_told_orientation {CB fI : Addr} (D : DefAt K mg "told_orientation" "told_orientation" s_told_orientation) (B : Bt mg) (G : GraphC K C) (T : SupX.SupTxt P K mg "BadOrientation" CB fI) (h_is_whole : Has P w K mg base CX0 1 "is_whole" p_is_whole (spIsI K)) :
    Has P w K mg base (L2.CX P w) 2 "told_orientation" p_told_orientation (spOri K C CB) := by
  refine has_ofX D sc_told_orientation (fun _ _ _ _ _ _ us hl => match us, hl with | [_, _], _ => rfl) (fun vs H Q E h => ?_) (fun f cdv A outer s H vs Q E hr h => ?_)
  · obtain ⟨g, n, es, v, r, ns, rfl, _⟩ := h
    rfl
  · obtain ⟨g, n, es, v, r, ns, rfl, gr, hv, q, qe⟩ := h
    have tk : Takes (cxOf (L2.CX P w) P w K mg base n_told_orientation "told_orientation" (defScope s_told_orientation) f cdv A outer s H E) (fun cls d _ H => E cls d H) := takes_of rfl rfl rfl rfl
    refine ⟨_, (pss_cons (ps_if (PW.pt (pw_or (pt_not (pt_val (pe_callB (isiTK (K := K) rfl) rfl B.isinstance (by decide +kernel) (pa_cons (pv 1) (pa_cons (pe_tup (pa_cons (pe_bltn (v := .ty "tuple") (u := .type "tuple") rfl B.tuple (by decide +kernel) rfl) (pa_cons (pe_bltn (v := .ty "list") (u := .type "list") rfl B.list (by decide +kernel) rfl) pa_nil))) pa_nil))))) (pw_or1 (pt_cmpR op_ne (pe_callB (lenK (K := K) rfl) rfl B.len PySem.boot_len (pa_cons (pv 1) pa_nil)) (pe_callB (lenK (K := K) rfl) rfl B.len PySem.boot_len (pa_cons (fldK (K := K) rfl (pv 0) rfl) pa_nil)) (nomark _))))) (pss_one (ps_raiseSup rfl T hr tk (pa_cons pe_non pa_nil))) pss_nil)
  (pss_cons (ps_for PassesOwn.leaving rfl (pi_enumR (K := K) rfl rfl B.enumerate (pa_cons (pv 1) pa_nil)) (pgT (K := K) (n := 2) rfl rfl (pgs_cons (pg_name (i := 2) sc_told_orientation.nd rfl (.inl rfl)) (pgs_cons (pg_name (i := 3) sc_told_orientation.nd rfl (.inl rfl)) pgs_nil))) (pss_one (ps_if (PW.pt (pw_or (pt_not (pt_val (pe_h h_is_whole hr pass0 (pa_cons (pv 3) pa_nil)))) (pw_or1 (pt_cmpR (ninK (K := K) rfl) (pv 3) (pe_tup (pa_cons pe_int (pa_cons (pe_un un_neg pe_int) pa_nil))) (by rfl))))) (pss_one (ps_raiseSup rfl T hr tk (pa_cons (pv 2) pa_nil))) pss_nil)))
  (pss_one (ps_ret (pe_callTy (tupK (K := K) rfl) rfl B.tuple (by decide +kernel) (pa_cons (pv 1) pa_nil)))))), ?_⟩
    obtain ⟨⟨kd, dx, eT, vs, hg, heT, hvs⟩, good, hn1, hn64, he4, _⟩ := id gr
    have lvs := hvs.len
    refine ⟨_, rfl, by show 2 ≤ sizeLine; decide, fun tp ntp => ?_⟩
    have s1 : Same H (upd H tp (.tup [.ty "tuple", .ty "list"])) := same_upd ntp
    have htp : (upd H tp (.tup [.ty "tuple", .ty "list"])) tp = some (.tup [.ty "tuple", .ty "list"]) := upd_same
    generalize upd H tp (.tup [.ty "tuple", .ty "list"]) = H1 at s1 htp
    have hg1 := s1 _ _ hg
    have heT1 := s1 _ _ heT
    have hv1 := hv.same s1
    have xx : ∀ (k : V) (H2 : Hp), k = r → k ≠ .bl true → Same H H2 → ∀ d, H2 d = none → E (.ref CB) (some d) (upd H2 d (.xd [("number", k)])) := fun k H2 e ne sm d nd => by
      subst e
      exact qe _ d (sm.trans (same_upd nd)) (sm.free nd) ne upd_same
    rcases rowP_cases hv with ⟨a, xs, ds, e, hrow, hd, hl, hbad, hgood⟩ | ⟨rfl, d, h, hd⟩ | ⟨rfl, a, xs, e, h, hl⟩
    · subst e
      have hrow1 := hrow.imp s1.seq (Same.seqT s1)
      obtain ⟨d0, ht, hs⟩ := row_tyP hrow1
      have lx := DpAll.len hd
      refine ⟨_, tp, _, _, _, isSeqD d0, rfl, htp, .cons (.ty _) (.cons (.ty _) .nil), ht, kt_tl d0, _, rfl, ?_⟩
      rw [hs]
      refine iteF ⟨_, rfl, _, _, rfl, row_lenP hrow1, _, rfl, g, C, dx, _, _, rfl, hg1, G.cls, G.edges, rfl, ?_⟩
      refine ⟨_, vs.length, rfl, .inr ⟨_, SqT.of heT1, rfl⟩, rfl, _, rfl, ifN (fun e => absurd (congrArg V.int (by omega)) e) fun _ => ?_⟩
      refine ⟨_, rfl, a, rfl, ?_⟩
      refine for_enR (K := K) (a := a) (xs := xs) (H0 := H) hrow (fun i σ H' => ∃ (y z : Option V), σ = [some (.ref g), some (.ref a), y, z] ∧ Same H H' ∧ ∀ j d, j < i → ds[j]? = some d → isSign d = true) ?_ ?_ ?_ ?_
      · exact ⟨_, _, rfl, s1, fun j d h => absurd h (Nat.not_lt_zero _)⟩
      · rintro i σ' H' ⟨_, _, _, sm, _⟩ o ho
        exact sm _ _ ho
      · rintro i x T σ' H' hx ⟨y, z, rfl, sm, hj⟩ nT
        have hi : i < ds.length := by rw [← lx]; exact (List.getElem?_eq_some_iff.mp hx).1
        obtain ⟨x', e1, dd⟩ := DpAll.get hd hi
        rw [hx] at e1
        obtain rfl := Option.some.inj e1
        have sT : Same H' (upd H' T (.tup [.int (i : Nat), x])) := same_upd nT
        refine ⟨T, _, rfl, SqT.of upd_same, rfl, _, _, rfl, _, _, rfl, rfl, ?_⟩
        have hD : ds[i]? = some ds[i] := List.getElem?_eq_getElem hi
        generalize ds[i] = d at dd hD
        refine ⟨_, rfl, x, _, rfl, Dp.same (sm.trans sT) dd, _, rfl, ?_⟩
        have wrong : isSign d = false → nV i = r := fun z => (hbad i (by omega) hj fun d' hd' => by
          rw [hD] at hd'
          rw [← Option.some.inj hd']; exact z).symm
        cases hw : isI x with
        | false =>
          refine iteT ⟨_, rfl, _, rfl, xx _ _ (wrong ?_) (fun z => by cases z) (sm.trans sT)⟩
          cases dd <;> first | rfl | cases hw
        | true =>
          obtain ⟨z, rfl, rfl⟩ : ∃ z, x = .int z ∧ d = .int z := by
            cases dd <;> first | exact ⟨_, rfl, rfl⟩ | cases hw
          refine iteF ⟨_, rfl, _, rfl, by show 2 ≤ sizeLine; decide, fun t2 nt2 => ?_⟩
          have s3 := (sm.trans sT).trans (same_upd (o := .tup [.int 1, .int (-1)]) nt2)
          refine ⟨_, _, rfl, .inr (SqT.of upd_same), rfl, rfl, _, rfl, ?_⟩
          have ein : (!inV (.int z) [.int 1, .int (-1)]) = !isSign (.int z) := congrArg _ sgn_in
          show ite ((!inV (.int z) [.int 1, .int (-1)]) = true) _ _
          rw [ein]
          cases hn : isSign (.int z) with
          | true =>
            refine iteF ⟨_, _, rfl, s3, fun j d hjl hd' => ?_⟩
            by_cases c : j < i
            · exact hj j d c hd'
            · have : j = i := by omega
              subst this
              rw [hD] at hd'
              rw [← Option.some.inj hd']; exact hn
          | false =>
            exact iteT ⟨_, rfl, _, rfl, xx _ _ (wrong hn) (fun z => by cases z) s3⟩
      · rintro σ' H' ⟨y, z, rfl, sm, hj⟩
        obtain ⟨hr, hx⟩ := hgood fun j d hd' => hj j d (by rw [lx]; exact (List.getElem?_eq_some_iff.mp hd').1) hd'
        subst hx
        rcases hrow with hrow | hrow
        · refine ⟨_, rfl, a, _, rfl, .inl ⟨sm.seq hrow, fun l nl => ?_⟩⟩
          exact q _ l (sm.trans (same_upd nl)) hr (SqT.of upd_same)
        · exact ⟨_, rfl, a, _, rfl, .inr ⟨Same.seqT sm hrow, q _ a sm hr (Same.seqT sm hrow)⟩⟩
    · refine ⟨_, tp, _, _, _, isSeqD d, rfl, htp, .cons (.ty _) (.cons (.ty _) .nil), tyx_same s1 h, kt_tl d, _, rfl, ?_⟩
      rw [hd]
      exact iteT ⟨_, rfl, xx _ _ rfl (fun z => by cases z) s1⟩
    · subst e
      have hrow1 := h.imp s1.seq (Same.seqT s1)
      obtain ⟨d0, ht, hs⟩ := row_tyP hrow1
      refine ⟨_, tp, _, _, _, isSeqD d0, rfl, htp, .cons (.ty _) (.cons (.ty _) .nil), ht, kt_tl d0, _, rfl, ?_⟩
      rw [hs]
      refine iteF ⟨_, rfl, _, _, rfl, row_lenP hrow1, _, rfl, g, C, dx, _, _, rfl, hg1, G.cls, G.edges, rfl, ?_⟩
      refine ⟨_, vs.length, rfl, .inr ⟨_, SqT.of heT1, rfl⟩, rfl, _, rfl, ifN (fun _ => ?_) fun e => absurd e (fun z => hl (by injection z with z; omega))⟩
      exact ⟨_, rfl, xx _ _ rfl (fun z => by cases z) s1⟩
end
end G3

set_option Elab.async false
set_option linter.all false
set_option maxRecDepth 100000
set_option maxHeartbeats 2000000
namespace G3
open PySem PySem.Spec PyProof.Rows L2
/-! ## zip of two tuples in a comprehension -/
theorem walk_zipT {K : PySem.W.Frag} {a b : Addr} {xs ys : List V} {n : Nat} (hn : n = min xs.length ys.length) : Walk (RZ.ItzT K a b) n (fun H => SqT K H a xs ∧ SqT K H b ys) (YPair (fun i => xs[i]?) (fun i => ys[i]?)) := by
  subst hn
  refine ⟨fun i _ hi q => ?_, fun _ q => ⟨xs, ys, q.1, q.2, by omega⟩, fun i H v H' _ q y => ?_⟩
  · have h1 : i < xs.length := by omega
    have h2 : i < ys.length := by omega
    exact ⟨xs, ys, xs[i], ys[i], q.1, q.2, by simp [h1], by simp [h2]⟩
  · obtain ⟨T, x, z, h1, h2, h3, h4, h5⟩ := y
    exact ⟨T, x, z, h1, h2, h3, h4 xs q.1, h5 ys q.2⟩
theorem pi_zipK {X : Cx} {K : PySem.W.Frag} (h : X.K = K) {e e2 : Expr} {ta : TA} {p pos tpos : Pos} {elts : List Expr} {kk : Nat} (hg : Gl X "zip") (hm : X.mg "zip" = none) (ha : PA X [e, e2] ta)
    (hs : starEach [e, e2] X.env = (false, eval e X.env) :: starEach [e2] X.env := by rfl) (hpl : (backTo pos (starEach [e2] X.env)).any (·.1) = false := by rfl) :
    PI X (.Tuple elts kk tpos) (.Call (.Name "zip" p) [e, e2] [] pos) (RZ.iZipA K ta) := by
  subst h
  exact RZ.pi_zipA hg hm ha hs hpl
theorem flat_nV : ∀ l : List Nat, (l.map nV).all flatV = true
  | [] => rfl
  | a :: l => by
    rw [List.map_cons, List.all_cons, flat_nV l]; rfl
theorem eqV_nV {a b : Nat} : eqV (nV a) (nV b) = decide (a = b) := by
  show decide ((a : Int) = b) = _
  exact decide_eq_decide.mpr ⟨fun h => by omega, fun h => by omega⟩
theorem inV_nV {a : Nat} : ∀ l : List Nat, inV (nV a) (l.map nV) = l.contains a
  | [] => rfl
  | b :: l => by
    show (eqV (nV b) (nV a) || inV (nV a) (l.map nV)) = _
    rw [inV_nV l, eqV_nV, List.contains_cons]
    congr 1
    by_cases c : b = a
    · rw [c]; simp
    · rw [decide_eq_false c]
      exact (beq_eq_false_iff_ne.mpr fun z => c z.symm).symm
def busyB (left : List Nat) (ls : List Pr) (p : Nat) : List Bool := ls.map fun l => decide (l.2 = p) && left.contains l.1
theorem busyB_any (left : List Nat) (ls : List Pr) (p : Nat) : (busyB left ls p).any id = busy left ls p := by
  unfold busyB busy
  rw [List.any_map]; rfl
theorem lead_lt {n : Nat} {ws : List Int} {es : List Pr} (h : ∀ e ∈ es, e.1 < n ∧ e.2 < n) : ∀ l ∈ leads ws es, l.1 < n ∧ l.2 < n := fun l hl => by
  unfold leads at hl
  obtain ⟨i, hi, rfl⟩ := List.getElem_of_mem hl
  rw [List.getElem_zipWith]
  rw [List.length_zipWith] at hi
  have := h _ (List.getElem_mem (show i < es.length by omega))
  unfold lead
  split
  · exact this
  · exact ⟨this.2, this.1⟩
theorem leads_len {ws : List Int} {es : List Pr} (h : ws.length = es.length) : (leads ws es).length = es.length := by
  unfold leads
  rw [List.length_zipWith, h, Nat.min_self]
theorem leads_get {ws : List Int} {es : List Pr} {i : Nat} (h1 : i < ws.length) (h2 : i < es.length) : (leads ws es)[i]? = some (lead ws[i] es[i]) := by
  unfold leads
  rw [List.getElem?_zipWith, List.getElem?_eq_getElem h1, List.getElem?_eq_getElem h2]
theorem first_at {p : Nat} : ∀ {l : List Nat}, p ∈ l → ∃ j, l[j]? = some p ∧ (∀ m, m < j → l[m]? ≠ some p) ∧ l.eraseIdx j = l.erase p
  | [], h => nomatch h
  | a :: l, h => by
    by_cases c : a = p
    · subst c
      exact ⟨0, rfl, fun m hm => absurd hm (Nat.not_lt_zero _), by rw [List.erase_cons_head]; rfl⟩
    · obtain ⟨j, h1, h2, h3⟩ := first_at ((List.mem_cons.mp h).resolve_left fun z => c z.symm)
      refine ⟨j + 1, by rw [List.getElem?_cons_succ]; exact h1, fun m hm => ?_, ?_⟩
      · cases m with
        | zero => intro z; exact c (Option.some.inj z)
        | succ m => rw [List.getElem?_cons_succ]; exact h2 m (by omega)
      · rw [List.erase_cons_tail (by rw [beq_iff_eq]; exact c), ← h3]; rfl
/-- x.remove(k) of a list of places -/
theorem rem_dat {left : List Nat} {p : Nat} (hp : p ∈ left) : ∃ j : Nat, left.map nV = (left.map fun a : Nat => (a : Int)).map V.int ∧ (left.map fun a : Nat => (a : Int))[j]? = some (p : Int) ∧ (∀ m : Nat, m < j → (left.map fun a : Nat => (a : Int))[m]? ≠ some (p : Int)) ∧
    ((left.map fun a : Nat => (a : Int)).eraseIdx j).map V.int = (left.erase p).map nV := by
  obtain ⟨j, h1, h2, h3⟩ := first_at hp
  refine ⟨j, by rw [List.map_map]; rfl, by rw [List.getElem?_map, h1]; rfl, fun m hm z => ?_, by rw [← h3, map_erase, List.map_map]; rfl⟩
  rw [List.getElem?_map] at z
  obtain ⟨x, e1, e2⟩ := Option.map_eq_some_iff.mp z
  have : x = p := by omega
  exact h2 m hm (this ▸ e1)
theorem filter_take {α : Type} {f : α → Bool} {l : List α} {i : Nat} {x : α} (h : l[i]? = some x) : (l.take (i + 1)).filter f = (l.take i).filter f ++ if f x = true then [x] else [] := by
  rw [List.take_add_one, h, List.filter_append]
  congr 1
  show [x].filter f = _
  rw [List.filter_cons]; rfl
section
variable {P : Program} {w : World} {K : PySem.W.Frag} {mg : Str → Option Value} {base : Heap} {C : Addr}
abbrev n_ordered : List Str := ["graph", "orientation", "signs", "leads", "left", "found", "free", "sign", "one", "other", "place"]
abbrev p_ordered : List Str := ["graph", "orientation"]
theorem sc_ordered : FnScope n_ordered p_ordered (defScope s_ordered) := ⟨rfl, rfl, rfl, by decide +kernel, rfl, by decide +kernel, by decide +kernel⟩
def spOrd (K : PySem.W.Frag) (C CB : Addr) : Sp := fun vs H Q E => ∃ (g : Addr) (n : Nat) (es : List Pr) (v r : V) (ns : List Int), vs = [.ref g, v] ∧ Gk H C g n es ∧ RowP isSign K H v es.length r ns ∧
  (∀ (H' : Hp) (y : V), Same H H' → r = .bl true → (match ordA n (leads ns es) with | none => y = .non | some o => ∃ l, y = .ref l ∧ H' l = some (.tup (o.map nV))) → Q y H') ∧ (∀ (H' : Hp) (l : Addr), Same H H' → H l = none → r ≠ .bl true → H' l = some (.xd [("number", r)]) → E (.ref CB) (some l) H')
theorem ok_ordered {CB : Addr} (D : DefAt K mg "ordered" "ordered" s_ordered) (B : Bt mg) (G : GraphC K C) (h_told_orientation : Has P w K mg base (L2.CX P w) 2 "told_orientation" p_told_orientation (spOri K C CB)) :
    Has P w K mg base (L2.CX P w) 3 "ordered" p_ordered (spOrd K C CB) := by
  refine has_ofX D sc_ordered (fun _ _ _ _ _ _ us hl => match us, hl with | [_, _], _ => rfl) (fun vs H Q E h => ?_) (fun f cdv A outer s H vs Q E hr h => ?_)
  · obtain ⟨g, n, es, v, r, ns, rfl, _⟩ := h
    rfl
  · obtain ⟨g, n, es, v, r, ns, rfl, gr, hv, q, qe⟩ := h
    have tk : Takes (cxOf (L2.CX P w) P w K mg base n_ordered "ordered" (defScope s_ordered) f cdv A outer s H E) (fun cls d _ H => E cls d H) := takes_of rfl rfl rfl rfl
    refine ⟨_, (pss_cons (ps_set (i := 2) sc_ordered.nd rfl (.inl rfl) (pe_hS h_told_orientation hr (fun σ => passAt tk σ) (pa_cons (pv 0) (pa_cons (pv 1) pa_nil))))
  (pss_cons (ps_set (i := 3) sc_ordered.nd rfl (.inr rfl) (pe_lc (own := [("sign", 7), ("one", 8), ("other", 9)]) (g := _) (tt := tYes) rfl sc_ordered.nd (pi_zipK (K := K) rfl rfl B.zip (pa_cons (pv 2) (pa_cons (fldK (K := K) rfl (pv 0) rfl) pa_nil))) (blkOk_by (N := n_ordered) (sc := defScope s_ordered) (by decide +kernel)) (fun _ _ _ _ _ => (pgT (K := K) (n := 2) rfl rfl (pgs_cons (pg_name (i := 7) sc_ordered.nd rfl (.inl rfl)) (pgs_cons (pgT (K := K) (n := 2) rfl rfl (pgs_cons (pg_name (i := 8) sc_ordered.nd rfl (.inl rfl)) (pgs_cons (pg_name (i := 9) sc_ordered.nd rfl (.inl rfl)) pgs_nil))) pgs_nil)))) (fun _ _ _ _ _ => pts_nil) (fun _ _ _ _ _ => (pe_ifExp (pt_cmpR op_eq (pv 7) pe_int (nomark _)) (pe_tup (pa_cons (pv 8) (pa_cons (pv 9) pa_nil))) (pe_tup (pa_cons (pv 9) (pa_cons (pv 8) pa_nil)))))))
  (pss_cons (ps_set (i := 4) sc_ordered.nd rfl (.inr rfl) (pe_listRg rfl rfl B.list (prg_1 rfl B.range (fldK (K := K) rfl (pv 0) rfl))))
  (pss_cons (ps_set (i := 5) sc_ordered.nd rfl (.inl rfl) (pe_lst pa_nil))
  (pss_cons (ps_while PassesOwn.leaving (pt_truth (pv 4) (by intro _; rfl)) (Evl.pss_cut (ps_setLc (i := 6) (own := [("place", 10)]) (g := gName 10) (tt := _) rfl sc_ordered.nd rfl rfl (sw_true rfl rfl rfl (by decide +kernel)) (piL (K := K) rfl (pv 4)) (blkOk_by (N := n_ordered) (sc := defScope s_ordered) (by decide +kernel)) (fun _ _ _ _ _ => (pg_name (i := 10) sc_ordered.nd rfl (.inr rfl))) (fun _ _ _ _ _ => (pts_one (pt_not (pt_val (pe_callB (anyK (K := K) rfl rfl) rfl B.any (by decide +kernel) (pa_cons (pe_lc (own := [("one", 8), ("other", 9)]) (g := _) (tt := tYes) rfl sc_ordered.nd (piL (K := K) rfl (pv 3)) (blkOk_by (N := n_ordered) (sc := _) (by rfl)) (fun _ _ _ _ _ => (pgT (K := K) (n := 2) rfl rfl (pgs_cons (pg_name (i := 8) sc_ordered.nd rfl (.inl rfl)) (pgs_cons (pg_name (i := 9) sc_ordered.nd rfl (.inl rfl)) pgs_nil)))) (fun _ _ _ _ _ => pts_nil) (fun _ _ _ _ _ => (pe_and (pe_cmpR op_eq (pv 9) (pv 10) (nomark _)) (pe_one (pe_cmpR (inK (K := K) rfl) (pv 8) (pv 4) (by rfl)))))) pa_nil)))))) (fun _ _ _ _ _ => (pv 10)))
  (pss_cons (ps_if (pt_not (pt_truth (pv 6) (by intro _; rfl))) (pss_one (ps_ret pe_non)) pss_nil)
  (pss_cons (ps_expr (pe_bm PySem.F.plainAttrs_list PySem.F.slot_list_append PySem.F.type_list_append mt_append (pv 5) (pa_cons (pe_ix (ixL (K := K) rfl) (pv 6) pe_int (fun _ _ => rfl)) pa_nil)))
  (pss_one (ps_expr (pe_bm PySem.F.plainAttrs_list PySem.F.slot_list_remove PySem.F.type_list_remove mt_remove (pv 4) (pa_cons (pe_ix (ixL (K := K) rfl) (pv 6) pe_int (fun _ _ => rfl)) pa_nil))))))))
  (pss_one (ps_ret (pe_callTy (tupK (K := K) rfl) rfl B.tuple (by decide +kernel) (pa_cons (pv 5) pa_nil))))))))), ?_⟩
    obtain ⟨⟨kd, dx, eT, vs, hg, heT, hvs⟩, good, hn1, hn64, he4, _⟩ := id gr
    have lvs := hvs.len
    refine ⟨_, rfl, _, rfl, g, n, es, v, r, ns, rfl, gr, hv, fun H1 S sm1 e hS => ?_, fun H1 l sm1 nl ne hx => qe H1 l sm1 nl ne hx⟩
    have hns : ns.length = es.length ∧ ∀ z ∈ ns, z = 1 ∨ z = -1 := by
      subst e
      cases hv with
      | good _ _ hl hp => exact ⟨hl, fun z hz => isSign_iff.mp (hp z hz)⟩
    have edg : ∀ e ∈ es, e.1 < n ∧ e.2 < n := fun e he => by
      have := good.1 e he
      omega
    have ledg := lead_lt (ws := ns) edg
    have llen := leads_len hns.1
    have hg1 := sm1 _ _ hg
    have heT1 := sm1 _ _ heT
    have hvs1 := hvs.same sm1
    -- leads
    refine ⟨_, rfl, _, rfl, g, C, dx, _, _, rfl, hg1, G.cls, G.edges, rfl, ?_⟩
    refine ⟨S, eT, ns.map V.int, vs, rfl, .inr ⟨hS, SqT.of heT1, fun L nL => ?_⟩⟩
    refine lc_it (walk_zipT (K := K) (a := S) (b := eT) (xs := ns.map V.int) (ys := vs) (n := es.length) (by rw [List.length_map, lvs, hns.1, Nat.min_self])) (fun i H2 => Same H1 H2 ∧ PLst H2 L ((leads ns es).take i)) ⟨same_upd nL, [], upd_same, True.intro⟩ (fun i H2 _ p => ⟨Same.seqT p.1 hS, SqT.of (p.1 _ _ heT1)⟩) ?_ ?_
    · rintro i x H2 H3 hi ⟨sm, hL⟩ ⟨T, x, y, rfl, nT, rfl, hx, hy⟩
      have hx : (ns.map V.int)[i]? = some x := hx
      have hy : vs[i]? = some y := hy
      have hni : i < ns.length := by omega
      rw [getMap hni] at hx
      obtain rfl := Option.some.inj hx
      obtain ⟨t, e1, e2⟩ := hvs1.get hi
      rw [hy] at e1
      obtain rfl := Option.some.inj e1
      have sT : Same H2 (upd H2 T (.tup [.int ns[i], .ref t])) := same_upd nT
      refine ⟨T, _, rfl, SqT.of upd_same, rfl, _, _, rfl, _, _, rfl, t, _, rfl, SqT.of (sT _ _ (sm _ _ e2)), rfl, _, _, rfl, _, _, rfl, rfl, rfl, rfl, yes_ ?_⟩
      refine ⟨_, rfl, rfl, _, rfl, ifD (fun hd => ?_) (fun hd => ?_)⟩
      · have hd : ns[i] = 1 := by injection hd
        refine ⟨_, rfl, _, rfl, by show 2 ≤ sizeLine; decide, fun T2 nT2 => ?_⟩
        obtain ⟨us, h1, h2, h3⟩ := hL.push (a := es[i].1) (b := es[i].2) sT nT2
        refine ⟨us, h1, size_lt (by rw [h2, List.length_take]; omega), same_mut ((sm.trans sT).trans (same_upd nT2)) nL, ?_⟩
        rw [List.take_add_one, leads_get hni hi]
        unfold lead
        rw [if_pos hd]
        exact h3
      · have hd : ns[i] ≠ 1 := fun z => hd (by rw [z])
        refine ⟨_, rfl, _, rfl, by show 2 ≤ sizeLine; decide, fun T2 nT2 => ?_⟩
        obtain ⟨us, h1, h2, h3⟩ := hL.push (a := es[i].2) (b := es[i].1) sT nT2
        refine ⟨us, h1, size_lt (by rw [h2, List.length_take]; omega), same_mut ((sm.trans sT).trans (same_upd nT2)) nL, ?_⟩
        rw [List.take_add_one, leads_get hni hi]
        unfold lead
        rw [if_neg hd]
        exact h3
    rintro H2 ⟨sm2, pl⟩
    rw [List.take_of_length_le (by omega)] at pl
    generalize hls : leads ns es = ls at pl ledg llen
    -- left
    refine ⟨_, rfl, g, C, dx, _, _, rfl, sm2 _ _ hg1, G.cls, G.n, rfl, ?_⟩
    refine ⟨n, rfl, .of_le (by decide) (by omega) (by decide) (by omega), fun lf nlf => ?_⟩
    have en : rgV 0 (n : Int) = (List.range n).map nV := rgV_nat (m := (n : Int)) |>.trans (by rfl)
    have slf : Same H2 (upd H2 lf (.lst (rgV 0 (n : Int)))) := same_upd nlf
    have hlf : (upd H2 lf (.lst (rgV 0 (n : Int)))) lf = some (.lst ((List.range n).map nV)) := by rw [upd_same, en]
    show gName 4 _ _ (upd H2 lf (.lst (rgV 0 (n : Int)))) _
    generalize upd H2 lf (.lst (rgV 0 (n : Int))) = H3 at slf hlf ⊢
    refine ⟨by show 0 ≤ sizeLine; decide, fun F nF => ?_⟩
    have sF : Same H3 (upd H3 F (.lst [])) := same_upd nF
    have hF : (upd H3 F (.lst [])) F = some (.lst []) := upd_same
    have hlf4 := sF _ _ hlf
    generalize upd H3 F (.lst []) = H4 at sF hF hlf4 ⊢
    have s04 := ((sm1.trans sm2).trans slf).trans sF
    have nlF : lf ≠ F := fun z => by rw [← z, hlf] at nF; cases nF
    obtain ⟨us, hL2, hus2⟩ := pl
    have hL4 : H4 L = some (.lst us) := sF _ _ (slf _ _ hL2)
    have hus4 : Prs H4 us ls := (hus2.same slf).same sF
    have nLl : ¬ (L = lf ∨ L = F) := fun z => z.elim (fun z => by rw [← z, hL2] at nlf; cases nlf) fun z => by rw [← z, slf _ _ hL2] at nF; cases nF
    have ntl : ∀ t xs, H2 t = some (.tup xs) → ¬ (t = lf ∨ t = F) := fun t xs e z => z.elim (fun z => by rw [← z, e] at nlf; cases nlf) fun z => by rw [← z, slf _ _ e] at nF; cases nF
    have fresh2 : ∀ x, x = lf ∨ x = F → H x = none := fun x hx => by
      rcases hx with rfl | rfl
      · exact (sm1.trans sm2).free nlf
      · exact ((sm1.trans sm2).trans slf).free nF
    refine ⟨fun m σ' H5 => ∃ (y : Option V) (left fd : List Nat), σ' = [some (.ref g), some v, some (.ref S), some (.ref L), some (.ref lf), some (.ref F), y, none, none, none, none] ∧ But (fun x => x = lf ∨ x = F) H4 H5 ∧ H5 lf = some (.lst (left.map nV)) ∧ H5 F = some (.lst (fd.map nV)) ∧ m = left.length ∧ fd.length + left.length = n ∧
      ordA n ls = (ordF left.length left ls).map (fun o => fd ++ o), ⟨n, _, List.range n, [], rfl, But.refl, hlf4, hF, List.length_range.symm, by rw [List.length_range]; simp, ?_⟩, ?_⟩
    · rw [List.length_range]
      show _ = Option.map (fun o => o) _
      rw [Option.map_id']; rfl
    rintro m σ' H5 ⟨y, left, fd, rfl, b5, hl5, hF5, rfl, em, eo⟩
    have hL5 : H5 L = some (.lst us) := b5 _ _ nLl hL4
    have hus5 : Prs H5 us ls := hus2.mono fun t a b e => b5 _ _ (ntl _ _ e) (sF _ _ (slf _ _ e))
    have s05 : Same H H5 := b5.same s04 fresh2
    rcases hleft : left with _ | ⟨p0, left'⟩
    · subst hleft
      refine ⟨_, rfl, _, .inl ⟨_, SqL.of hl5, rfl⟩, ?_⟩
      refine iteF ⟨_, rfl, F, _, rfl, .inl ⟨SqL.of hF5, fun l nl => ?_⟩⟩
      refine q _ _ (s05.trans (same_upd nl)) e ?_
      rw [hls, eo]
      exact ⟨l, rfl, by show _ = some (HO.tup ((fd ++ []).map nV)); rw [upd_same, List.append_nil]⟩
    · rw [← hleft]
      refine ⟨_, rfl, _, .inl ⟨_, SqL.of hl5, rfl⟩, ?_⟩
      have ne : (!(left.map nV).isEmpty) = true := by rw [hleft]; rfl
      rw [ne]
      refine iteT ?_
      refine ⟨fun σ' H6 => ∃ m', m' < left.length ∧ ∃ (y : Option V) (left fd : List Nat), σ' = [some (.ref g), some v, some (.ref S), some (.ref L), some (.ref lf), some (.ref F), y, none, none, none, none] ∧ But (fun x => x = lf ∨ x = F) H4 H6 ∧ H6 lf = some (.lst (left.map nV)) ∧ H6 F = some (.lst (fd.map nV)) ∧ m' = left.length ∧ fd.length + left.length = n ∧
        ordA n ls = (ordF left.length left ls).map (fun o => fd ++ o), fun _ _ h => h, ?_⟩
      refine ⟨fun σ' H6 => ∃ Fr, σ' = [some (.ref g), some v, some (.ref S), some (.ref L), some (.ref lf), some (.ref F), some (.ref Fr), none, none, none, none] ∧ Same H5 H6 ∧ H5 Fr = none ∧ H6 Fr = some (.lst ((freeL left ls).map nV)), ?_, ?_⟩
      · refine ⟨_, rfl, lf, rfl, ⟨_, SqL.of hl5⟩, fun Fr nFr => ?_⟩
        refine lc_list (K := K) (a := lf) (xs := left.map nV) (fun i H6 => Same H5 H6 ∧ H6 Fr = some (.lst (((left.take i).filter fun p => !busy left ls p).map nV))) ⟨same_upd nFr, upd_same⟩ (fun i H6 _ p => SqL.of (p.1 _ _ hl5)) ?_ ?_
        · rintro i x H6 hx ⟨sm, hFr⟩
          rw [List.getElem?_map] at hx
          obtain ⟨p, hp, rfl⟩ := Option.map_eq_some_iff.mp hx
          have hi : i < left.length := (List.getElem?_eq_some_iff.mp hp).1
          refine ⟨rfl, ?_⟩
          refine ⟨_, rfl, L, rfl, ⟨_, SqL.of (sm _ _ hL5)⟩, fun L2 nL2 => ?_⟩
          refine lc_list (K := K) (a := L) (xs := us) (fun j H7 => Same H6 H7 ∧ H7 L2 = some (.lst (((busyB left ls p).take j).map V.bl))) ⟨same_upd nL2, upd_same⟩ (fun j H7 _ p => SqL.of (p.1 _ _ (sm _ _ hL5))) ?_ ?_
          · rintro j x H7 hx ⟨sm7, hL7⟩
            have hj : j < ls.length := by rw [← hus5.len]; exact (List.getElem?_eq_some_iff.mp hx).1
            obtain ⟨t, e1, e2⟩ := hus5.get hj
            rw [hx] at e1
            obtain rfl := Option.some.inj e1
            refine ⟨t, _, rfl, SqT.of (sm7 _ _ (sm _ _ e2)), rfl, _, _, rfl, _, _, rfl, rfl, rfl, yes_ ?_⟩
            have eb : (busyB left ls p)[j]? = some (decide (ls[j].2 = p) && left.contains ls[j].1) := by
              unfold busyB
              rw [List.getElem?_map, List.getElem?_eq_getElem hj]; rfl
            have fin : ∀ b, b = (decide (ls[j].2 = p) && left.contains ls[j].1) → ∃ acc, H7 L2 = some (.lst acc) ∧ acc.length < sizeLine ∧ Same H6 (upd H7 L2 (.lst (acc ++ [.bl b]))) ∧ (upd H7 L2 (.lst (acc ++ [.bl b]))) L2 = some (.lst (((busyB left ls p).take (j + 1)).map V.bl)) := fun b hb => by
              refine ⟨_, hL7, size_lt ?_, same_mut sm7 nL2, ?_⟩
              · rw [List.length_map, List.length_take]; omega
              · rw [upd_same, List.take_add_one, eb, List.map_append, hb]; rfl
            refine ⟨_, rfl, _, rfl, rfl, ?_⟩
            have eq2 : (decide (nV ls[j].2 = nV p)) = decide (ls[j].2 = p) := decide_eq_decide.mpr ⟨fun h => by injection h with h; omega, fun h => by rw [h]⟩
            by_cases c : ls[j].2 = p
            · refine ⟨_, rfl, ?_⟩
              rw [eq2, decide_eq_true c, if_pos rfl]
              refine ⟨_, rfl, _, rfl, lf, _, rfl, .inl (SqL.of (sm7 _ _ (sm _ _ hl5))), rfl, flat_nV _, fin _ ?_⟩
              show inV (nV ls[j].1) (left.map nV) = _
              rw [inV_nV, decide_eq_true c, Bool.true_and]
            · refine ⟨_, rfl, ?_⟩
              rw [eq2, decide_eq_false c, if_neg Bool.false_ne_true]
              refine fin _ ?_
              rw [decide_eq_false c, Bool.false_and]
          · rintro H7 ⟨sm7, hL7⟩
            have lb : us.length = (busyB left ls p).length := by unfold busyB; rw [List.length_map, hus5.len]
            rw [lb, List.take_length] at hL7
            refine ⟨L2, _, rfl, SqL.of hL7, _, rfl, ?_⟩
            rw [busyB_any]
            have ef := filter_take (f := fun p => !busy left ls p) hp
            show ite ((!busy left ls p) = true) _ _
            cases hb : (!busy left ls p) with
            | true =>
              refine iteT ⟨_, rfl, _, sm7 _ _ hFr, size_lt ?_, same_mut (sm.trans sm7) nFr, ?_⟩
              · rw [List.length_map]
                have := List.length_filter_le (fun p => !busy left ls p) (left.take i)
                rw [List.length_take] at this
                omega
              · rw [upd_same, ef, if_pos hb, List.map_append]; rfl
            | false =>
              refine iteF ⟨sm.trans sm7, ?_⟩
              rw [ef, if_neg (by rw [hb]; exact Bool.false_ne_true), List.append_nil]
              exact sm7 _ _ hFr
        · rintro H6 ⟨sm, hFr⟩
          rw [List.length_map, List.take_length] at hFr
          exact ⟨_, rfl, sm, nFr, hFr⟩
      · rintro σ' H6 ⟨Fr, rfl, sm, nFr, hFr⟩
        have hF6 := sm _ _ hF5
        have hl6 := sm _ _ hl5
        have b6 : But (fun x => x = lf ∨ x = F) H4 H6 := b5.trans (Same.but sm)
        have eord : ordF left.length left ls = match freeL left ls with
            | [] => none
            | p :: _ => (ordF left'.length (left.erase p) ls).map fun o => p :: o := by rw [hleft]; rfl
        rcases hfree : freeL left ls with _ | ⟨p, rest⟩
        · rw [hfree] at hFr eord
          refine ⟨_, rfl, _, .inl ⟨_, SqL.of hFr, rfl⟩, ?_⟩
          refine iteT ?_
          refine q _ _ (s05.trans sm) e ?_
          rw [hls, eo, eord]
          exact rfl
        · rw [hfree] at hFr eord
          refine ⟨_, rfl, _, .inl ⟨_, SqL.of hFr, rfl⟩, ?_⟩
          refine iteF ?_
          have hpl : p ∈ left := (freeL_mem.mp (hfree ▸ List.mem_cons_self (a := p) (l := rest))).1
          have nFF : Fr ≠ F := fun z => by rw [z, hF5] at nFr; cases nFr
          have nFl : Fr ≠ lf := fun z => by rw [z, hl5] at nFr; cases nFr
          refine ⟨_, rfl, .inl ⟨rfl, _, SqL.of hF6⟩, _, rfl, _, _, 0, nV p, rfl, rfl, SqL.of hFr, atI_nat (j := 0) rfl, _, _, _, rfl, rfl, hF6, size_lt (by rw [List.length_map]; omega), ?_⟩
          have hl7 : (upd H6 F (.lst (fd.map nV ++ [nV p]))) lf = some (.lst (left.map nV)) := by rw [upd_ne nlF]; exact hl6
          have hFr7 : (upd H6 F (.lst (fd.map nV ++ [nV p]))) Fr = some (.lst ((p :: rest).map nV)) := by rw [upd_ne nFF]; exact hFr
          have hF7 : (upd H6 F (.lst (fd.map nV ++ [nV p]))) F = some (.lst ((fd ++ [p]).map nV)) := by rw [upd_same, List.map_append]; rfl
          have b7 : But (fun x => x = lf ∨ x = F) H4 (upd H6 F (.lst (fd.map nV ++ [nV p]))) := b6.trans (But.mut (X := fun x => x = lf ∨ x = F) (.inr rfl))
          refine ⟨_, rfl, .inl ⟨rfl, _, SqL.of hl7⟩, _, rfl, _, _, 0, nV p, rfl, rfl, SqL.of hFr7, atI_nat (j := 0) rfl, ?_⟩
          obtain ⟨j, r1, r2, r3, r4⟩ := rem_dat hpl
          rw [r1] at hl7
          refine ⟨lf, _, p, j, rfl, rfl, hl7, r2, r3, ?_⟩
          rw [r4]
          have ll := List.length_erase_of_mem hpl
          have l1 : left.length = left'.length + 1 := by rw [hleft]; rfl
          refine ⟨left'.length, by omega, _, left.erase p, fd ++ [p], rfl, b7.trans (But.mut (X := fun x => x = lf ∨ x = F) (.inl rfl)), upd_same, ?_, by omega, by rw [List.length_append, ll]; show fd.length + 1 + _ = n; omega, ?_⟩
          · rw [upd_ne nlF.symm]; exact hF7
          · rw [eo, eord, show (left.erase p).length = left'.length by omega]
            show Option.map _ (Option.map _ _) = _
            rw [Option.map_map]
            congr 1
            funext o
            show fd ++ (p :: o) = fd ++ [p] ++ o
            rw [List.append_assoc]; rfl
end
end G3

set_option Elab.async false
set_option linter.all false
set_option maxRecDepth 100000
set_option maxHeartbeats 2000000
namespace G3
open PySem PySem.Spec PyProof.Rows L2
/-! ## without rings, and sources -/
def srcs (n : Nat) (ls : List Pr) : List Nat := (List.range n).filter fun p => !(ls.map fun l => l.2).contains p
section
variable {P : Program} {w : World} {K : PySem.W.Frag} {mg : Str → Option Value} {base : Heap} {C : Addr}
abbrev n_is_acyclic : List Str := ["graph", "orientation"]
abbrev p_is_acyclic : List Str := ["graph", "orientation"]
theorem sc_is_acyclic : FnScope n_is_acyclic p_is_acyclic (defScope s_is_acyclic) := ⟨rfl, rfl, rfl, by decide +kernel, rfl, by decide +kernel, by decide +kernel⟩
abbrev n_sources : List Str := ["graph", "orientation", "signs", "reached", "sign", "one", "other", "place"]
abbrev p_sources : List Str := ["graph", "orientation"]
theorem sc_sources : FnScope n_sources p_sources (defScope s_sources) := ⟨rfl, rfl, rfl, by decide +kernel, rfl, by decide +kernel, by decide +kernel⟩
def spAcyc (K : PySem.W.Frag) (C CB : Addr) : Sp := fun vs H Q E => ∃ (g : Addr) (n : Nat) (es : List Pr) (v r : V) (ns : List Int), vs = [.ref g, v] ∧ Gk H C g n es ∧ RowP isSign K H v es.length r ns ∧
  (∀ (H' : Hp), Same H H' → r = .bl true → Q (.bl (ordA n (leads ns es)).isSome) H') ∧ (∀ (H' : Hp) (l : Addr), Same H H' → H l = none → r ≠ .bl true → H' l = some (.xd [("number", r)]) → E (.ref CB) (some l) H')
theorem ok_is_acyclic {CB : Addr} (D : DefAt K mg "is_acyclic" "is_acyclic" s_is_acyclic) (B : Bt mg) (h_ordered : Has P w K mg base (L2.CX P w) 3 "ordered" p_ordered (spOrd K C CB)) :
    Has P w K mg base (L2.CX P w) 4 "is_acyclic" p_is_acyclic (spAcyc K C CB) := by
  refine has_ofX D sc_is_acyclic (fun _ _ _ _ _ _ us hl => match us, hl with | [_, _], _ => rfl) (fun vs H Q E h => ?_) (fun f cdv A outer s H vs Q E hr h => ?_)
  · obtain ⟨g, n, es, v, r, ns, rfl, _⟩ := h
    rfl
  · obtain ⟨g, n, es, v, r, ns, rfl, gr, hv, q, qe⟩ := h
    have tk : Takes (cxOf (L2.CX P w) P w K mg base n_is_acyclic "is_acyclic" (defScope s_is_acyclic) f cdv A outer s H E) (fun cls d _ H => E cls d H) := takes_of rfl rfl rfl rfl
    refine ⟨_, (pss_one (ps_ret (pe_cmpR op_notN (pe_hS h_ordered hr (fun σ => passAt tk σ) (pa_cons (pv 0) (pa_cons (pv 1) pa_nil))) pe_non (nomark _)))), ?_⟩
    refine ⟨_, rfl, _, rfl, g, n, es, v, r, ns, rfl, gr, hv, fun H1 y sm1 e hy => ?_, fun H1 l sm1 nl ne hx => qe H1 l sm1 nl ne hx⟩
    have q1 := q H1 sm1 e
    cases ho : ordA n (leads ns es) with
    | none =>
      rw [ho] at hy q1
      subst hy
      exact ⟨rfl, q1⟩
    | some o =>
      rw [ho] at hy q1
      obtain ⟨l, rfl, _⟩ := hy
      exact ⟨rfl, q1⟩
def spSrc (K : PySem.W.Frag) (C CB : Addr) : Sp := fun vs H Q E => ∃ (g : Addr) (n : Nat) (es : List Pr) (v r : V) (ns : List Int), vs = [.ref g, v] ∧ Gk H C g n es ∧ RowP isSign K H v es.length r ns ∧
  (∀ (H' : Hp) (l : Addr), Same H H' → r = .bl true → H' l = some (.tup ((srcs n (leads ns es)).map nV)) → Q (.ref l) H') ∧ (∀ (H' : Hp) (l : Addr), Same H H' → H l = none → r ≠ .bl true → H' l = some (.xd [("number", r)]) → E (.ref CB) (some l) H')
theorem ok_sources {CB : Addr} (D : DefAt K mg "sources" "sources" s_sources) (B : Bt mg) (G : GraphC K C) (h_told_orientation : Has P w K mg base (L2.CX P w) 2 "told_orientation" p_told_orientation (spOri K C CB)) :
    Has P w K mg base (L2.CX P w) 3 "sources" p_sources (spSrc K C CB) := by
  refine has_ofX D sc_sources (fun _ _ _ _ _ _ us hl => match us, hl with | [_, _], _ => rfl) (fun vs H Q E h => ?_) (fun f cdv A outer s H vs Q E hr h => ?_)
  · obtain ⟨g, n, es, v, r, ns, rfl, _⟩ := h
    rfl
  · obtain ⟨g, n, es, v, r, ns, rfl, gr, hv, q, qe⟩ := h
    have tk : Takes (cxOf (L2.CX P w) P w K mg base n_sources "sources" (defScope s_sources) f cdv A outer s H E) (fun cls d _ H => E cls d H) := takes_of rfl rfl rfl rfl
    refine ⟨_, (pss_cons (ps_set (i := 2) sc_sources.nd rfl (.inl rfl) (pe_hS h_told_orientation hr (fun σ => passAt tk σ) (pa_cons (pv 0) (pa_cons (pv 1) pa_nil))))
  (pss_cons (ps_set (i := 3) sc_sources.nd rfl (.inr rfl) (pe_lc (own := [("sign", 4), ("one", 5), ("other", 6)]) (g := _) (tt := tYes) rfl sc_sources.nd (pi_zipK (K := K) rfl rfl B.zip (pa_cons (pv 2) (pa_cons (fldK (K := K) rfl (pv 0) rfl) pa_nil))) (blkOk_by (N := n_sources) (sc := defScope s_sources) (by decide +kernel)) (fun _ _ _ _ _ => (pgT (K := K) (n := 2) rfl rfl (pgs_cons (pg_name (i := 4) sc_sources.nd rfl (.inl rfl)) (pgs_cons (pgT (K := K) (n := 2) rfl rfl (pgs_cons (pg_name (i := 5) sc_sources.nd rfl (.inl rfl)) (pgs_cons (pg_name (i := 6) sc_sources.nd rfl (.inl rfl)) pgs_nil))) pgs_nil)))) (fun _ _ _ _ _ => pts_nil) (fun _ _ _ _ _ => (pe_ifExp (pt_cmpR op_eq (pv 4) pe_int (nomark _)) (pv 6) (pv 5)))))
  (pss_one (ps_ret (pe_callTy (tupK (K := K) rfl) rfl B.tuple (by decide +kernel) (pa_cons (pe_lc (own := [("place", 7)]) (g := gName 7) (tt := _) rfl sc_sources.nd (pi_range1 rfl B.range (pa_cons (fldK (K := K) rfl (pv 0) rfl) pa_nil)) (blkOk_by (N := n_sources) (sc := defScope s_sources) (by decide +kernel)) (fun _ _ _ _ _ => (pg_name (i := 7) sc_sources.nd rfl (.inl rfl))) (fun _ _ _ _ _ => (pts_one (pt_cmpR (ninK (K := K) rfl) (pv 7) (pv 3) (by rfl)))) (fun _ _ _ _ _ => (pv 7))) pa_nil)))))), ?_⟩
    obtain ⟨⟨kd, dx, eT, vs, hg, heT, hvs⟩, good, hn1, hn64, he4, _⟩ := id gr
    have lvs := hvs.len
    refine ⟨_, rfl, _, rfl, g, n, es, v, r, ns, rfl, gr, hv, fun H1 S sm1 e hS => ?_, fun H1 l sm1 nl ne hx => qe H1 l sm1 nl ne hx⟩
    have hns : ns.length = es.length ∧ ∀ z ∈ ns, z = 1 ∨ z = -1 := by
      subst e
      cases hv with
      | good _ _ hl hp => exact ⟨hl, fun z hz => isSign_iff.mp (hp z hz)⟩
    have llen := leads_len hns.1
    have hg1 := sm1 _ _ hg
    have heT1 := sm1 _ _ heT
    have hvs1 := hvs.same sm1
    refine ⟨_, rfl, _, rfl, g, C, dx, _, _, rfl, hg1, G.cls, G.edges, rfl, ?_⟩
    refine ⟨S, eT, ns.map V.int, vs, rfl, .inr ⟨hS, SqT.of heT1, fun L nL => ?_⟩⟩
    refine lc_it (walk_zipT (K := K) (a := S) (b := eT) (xs := ns.map V.int) (ys := vs) (n := es.length) (by rw [List.length_map, lvs, hns.1, Nat.min_self])) (fun i H2 => Same H1 H2 ∧ H2 L = some (.lst ((((leads ns es).map fun l => l.2).take i).map nV))) ⟨same_upd nL, upd_same⟩ (fun i H2 _ p => ⟨Same.seqT p.1 hS, SqT.of (p.1 _ _ heT1)⟩) ?_ ?_
    · rintro i x H2 H3 hi ⟨sm, hL⟩ ⟨T, x, y, rfl, nT, rfl, hx, hy⟩
      have hx : (ns.map V.int)[i]? = some x := hx
      have hy : vs[i]? = some y := hy
      have hni : i < ns.length := by omega
      rw [getMap hni] at hx
      obtain rfl := Option.some.inj hx
      obtain ⟨t, e1, e2⟩ := hvs1.get hi
      rw [hy] at e1
      obtain rfl := Option.some.inj e1
      have sT : Same H2 (upd H2 T (.tup [.int ns[i], .ref t])) := same_upd nT
      refine ⟨T, _, rfl, SqT.of upd_same, rfl, _, _, rfl, _, _, rfl, t, _, rfl, SqT.of (sT _ _ (sm _ _ e2)), rfl, _, _, rfl, _, _, rfl, rfl, rfl, rfl, yes_ ?_⟩
      have eL : ((leads ns es).map fun l => l.2)[i]? = some (lead ns[i] es[i]).2 := by rw [List.getElem?_map, leads_get hni hi]; rfl
      have hlen : (List.map nV (((leads ns es).map fun l => l.2).take i)).length < sizeLine := size_lt (by rw [List.length_map, List.length_take]; omega)
      refine ⟨_, rfl, rfl, _, rfl, ifD (fun hd => ?_) (fun hd => ?_)⟩
      · have hd : ns[i] = 1 := by injection hd
        refine ⟨_, rfl, _, sT _ _ hL, hlen, same_mut (sm.trans sT) nL, ?_⟩
        rw [upd_same, List.take_add_one, eL, List.map_append]
        unfold lead
        rw [if_pos hd]; rfl
      · have hd : ns[i] ≠ 1 := fun z => hd (by rw [z])
        refine ⟨_, rfl, _, sT _ _ hL, hlen, same_mut (sm.trans sT) nL, ?_⟩
        rw [upd_same, List.take_add_one, eL, List.map_append]
        unfold lead
        rw [if_neg hd]; rfl
    rintro H2 ⟨sm2, hL⟩
    rw [List.take_of_length_le (by rw [List.length_map]; omega)] at hL
    generalize hls : leads ns es = ls at hL llen
    refine ⟨_, rfl, g, C, dx, _, _, rfl, sm2 _ _ hg1, G.cls, G.n, rfl, ?_⟩
    refine ⟨_, rfl, by omega, by omega, fun L2 nL2 => ?_⟩
    refine lc_range (lo := 0) (n := n) (fun i H3 => Same H2 H3 ∧ H3 L2 = some (.lst (((List.range i).filter fun p => !(ls.map fun l => l.2).contains p).map nV))) ⟨same_upd nL2, upd_same⟩ ?_ ?_
    · rintro i H3 hi ⟨sm3, hL3⟩
      have ei : V.int (0 + (i : Int)) = nV i := by rw [Int.zero_add]
      rw [ei]
      refine ⟨rfl, ?_⟩
      refine ⟨_, rfl, _, rfl, L, _, rfl, .inl (SqL.of (sm3 _ _ hL)), rfl, flat_nV _, _, rfl, ?_⟩
      have eb : (!inV (nV i) ((ls.map fun l => l.2).map nV)) = !(ls.map fun l => l.2).contains i := by rw [inV_nV]
      show ite ((!inV (nV i) ((ls.map fun l => l.2).map nV)) = true) _ _
      rw [eb]
      have er : (List.range (i + 1)).filter (fun p => !(ls.map fun l => l.2).contains p) = (List.range i).filter (fun p => !(ls.map fun l => l.2).contains p) ++ if (!(ls.map fun l => l.2).contains i) = true then [i] else [] := by
        rw [List.range_succ, List.filter_append]
        congr 1
        rw [List.filter_cons]; rfl
      cases hb : (!(ls.map fun l => l.2).contains i) with
      | true =>
        refine iteT ⟨_, rfl, _, hL3, size_lt ?_, same_mut sm3 nL2, ?_⟩
        · rw [List.length_map]
          have := List.length_filter_le (fun p => !(ls.map fun l => l.2).contains p) (List.range i)
          rw [List.length_range] at this
          omega
        · rw [upd_same, er, if_pos hb, List.map_append]; rfl
      | false =>
        refine iteF ⟨sm3, ?_⟩
        rw [er, if_neg (by rw [hb]; exact Bool.false_ne_true), List.append_nil]
        exact hL3
    · rintro H3 ⟨sm3, hL3⟩
      refine ⟨L2, _, rfl, .inl ⟨SqL.of hL3, fun l nl => ?_⟩⟩
      refine q _ l (((sm1.trans sm2).trans sm3).trans (same_upd nl)) e ?_
      rw [upd_same, hls]; rfl
end
end G3

set_option Elab.async false
set_option linter.all false
set_option maxRecDepth 100000
set_option maxHeartbeats 1000000
/-! tuple.index, flat items -/
namespace G3
open PySem PySem.Spec PyProof.Rows L2
section
variable {X : Cx}
def rIndexT (K : PySem.W.Frag) : V → List V → Hp → VK → Prop := fun x xs H Q => ∃ (a : Addr) (ys : List V) (y : V) (j : Nat) (z : V), x = V.ref a ∧ xs = [y] ∧ SqT K H a ys ∧ flatV y = true ∧ ys.all flatV = true ∧ ys[j]? = some z ∧ eqV z y = true ∧
  (∀ (m : Nat) (z' : V), m < j → ys[m]? = some z' → eqV z' y = false) ∧ Q (.int (j : Nat)) H
theorem mt_indexT (K : PySem.W.Frag) (hK : X.K = K) : MtR X "tuple.index" (rIndexT K) := by
  subst hK
  intro pins s σ H x xs v us Q I rx rxs h
  obtain ⟨a, ys, y, j, z, rfl, rfl, hs, fy, fys, hz, hzj, hno, q⟩ := h
  cases rx
  cases rxs with
  | cons ry rt =>
    rename_i uy ut
    cases rt
    obtain ⟨its, rv, pl, hlen⟩ := I.tuple hs
    obtain ⟨⟨cls, dd, dt, sl⟩, ho, hc, n, hd⟩ := pl
    simp only at hc hd
    subst hc hd
    obtain ⟨u, hu, ru⟩ := rv.get hz
    obtain ⟨hjl, hje⟩ := List.getElem?_eq_some_iff.mp hu
    have hvl := rv.length
    have hj : j < its.toArray.size := by simpa using hjl
    refine call_meets PySem.F.slot_tuple_index ⟨_, ho, rfl⟩ PySem.F.entry_tuple_index (PySem.F.args_tuple_index_2 _ _) (TI.tuple_indexAt a its.toArray n dd sl uy (eqU y) j hj ?_ ?_)
      ⟨ho, fun w hw => mem_eqAt ry fy rv fys w (by simpa using hw), ⟨.int (j : Nat), H, I.tok _, ⟨_, rfl⟩, q⟩⟩
    · have e1 : its.toArray[j] = u := by simpa using hje
      rw [e1, eqU_of ru (flat_at fys hz)]
      exact hzj
    · intro m hm hmj
      have hml : m < its.length := by simpa using hm
      have hmy : m < ys.length := by omega
      have hy' : ys[m]? = some ys[m] := List.getElem?_eq_getElem hmy
      obtain ⟨u2, hu2, ru2⟩ := rv.get hy'
      obtain ⟨_, hme⟩ := List.getElem?_eq_some_iff.mp hu2
      have e1 : its.toArray[m] = u2 := by simpa using hme
      rw [e1, eqU_of ru2 (flat_at fys hy')]
      exact hno m _ hmj hy'
variable {o e : Expr} {es : List Expr} {to : TE} {t : TA} {name : Str} {apos cpos : Pos} {T id : String} {r : V → List V → Hp → VK → Prop}
/-- a method of a built-in class, within a comprehension -/
theorem pe_bmK {K : PySem.W.Frag} (hK : X.K = K) (pa : PlainAttrs T) (slot : Slot T name id) (hty : typeOf (.builtin id) = pure (.type "method_descriptor")) (hm : MtR X id r) (ho : PE X o to) (ha : PA X (e :: es) t)
    (hbase : attributeBase o name X.env (eval o X.env) = eval o X.env := by rfl)
    (hfew : ((backTo cpos (starEach (e :: es) X.env)).all (fun x => !x.1) && (backToKw cpos (keywordEach [] X.env)).all (fun x => x.1.isSome)
      && decide ((e :: es).length + ([] : List Keyword).length + (if ([] : List Keyword).isEmpty then 0 else 1) < 30)) = true := by rfl)
    (hline : (apos.endLine == cpos.line) = true := by rfl) (hs : starEach (e :: es) X.env = (false, eval e X.env) :: starEach es X.env := by rfl) (hplain : (backTo cpos (starEach es X.env)).any (·.1) = false := by rfl) :
    PE X (.Call (.Attribute o name apos) (e :: es) [] cpos) (tBM K T r to t) := hK ▸ pe_bm pa slot hty hm ho ha hbase hfew hline hs hplain
/-! ### tuples whose object is known to have no dict: laid frozen -/
def Bare (ob : Obj) : Prop := ob.cls = .type "tuple" ∧ ob.dict = none
def tTupF (t : TA) : TE := fun σ H Q => t σ H fun xs H1 => xs.length ≤ sizeLine ∧ ∀ (p : Addr) (ob : Obj), H1 p = none → Bare ob → Q (.ref p) (upd H1 p (.frz ob (.tup xs)))
theorem pe_tupF {pos : Pos} {x1} (h : PA X es t) : PE X (.Tuple es x1 pos) (tTupF t) := by
  refine ⟨fun pins s σ H Q I hq => ?_⟩
  refine wpAny_Tuple_spliced (thn (h.run pos pins s σ H _ I hq) fun us s1 ⟨xs, H1, I1, r, z, q⟩ => ⟨by rw [← r.length]; exact z, ?_⟩)
  have hf : H1 s1.heap.objs.size = none := I1.hok.fresh (Nat.le_refl _)
  refine ⟨.ref s1.heap.objs.size, upd H1 s1.heap.objs.size (.frz { cls := .type "tuple", data := .seq us.toArray } (.tup xs)), I1.laid (t' := s1.toks) (fun b u e => Heap.get?_push_of_some _ e) (Nat.le_refl _) ?_, rfl, q _ _ hf ⟨rfl, rfl⟩⟩
  exact ⟨Heap.get?_push_size _ rfl, z, us, r, ⟨_, Heap.get?_push_size _ rfl, rfl, _, rfl⟩⟩
def rCatF (K : PySem.W.Frag) : R2 := fun x y H Q => ∃ a b xs ys, x = .ref a ∧ y = .ref b ∧ SqT K H a xs ∧ SqT K H b ys ∧ xs.length + ys.length ≤ sizeLine ∧ ys ≠ [] ∧ (xs = [] → Q (.ref b) H) ∧
  (xs ≠ [] → ∀ (p : Addr) (ob : Obj), H p = none → Bare ob → Q (.ref p) (upd H p (.frz ob (.tup (xs ++ ys)))))
theorem op_catF {K : PySem.W.Frag} (hK : X.K = K) : OpR X (binaryOp .Add) (rCatF K) := by
  subst hK
  intro pins s σ H x y v u Q I rx ry h
  obtain ⟨a, b, xs, ys, rfl, rfl, ha, hb, hz, hy, q0, q2⟩ := h
  cases rx
  cases ry
  obtain ⟨its, r1, p1, _⟩ := I.tuple ha
  obtain ⟨its2, r2, p2, _⟩ := I.tuple hb
  by_cases hx : xs = []
  · subst hx
    cases r1
    exact cat_tup0 p1 p2 ⟨.ref b, H, I, rfl, q0 rfl⟩
  · refine HT.cat_tup p1 p2 (fun z => hx (r1.nil_iff.mp z)) (fun z => absurd (r2.nil_iff.mp z) hy) (fun z => ?_) (by rw [← r1.length, ← r2.length]; exact hz)
    refine ⟨.ref s.heap.objs.size, _, I.laid (t' := s.toks) (o := .frz { cls := .type "tuple", data := .seq (its ++ its2).toArray } (.tup (xs ++ ys))) (fun b ob q => Heap.get?_push_of_some _ q) (Nat.le_refl _) ?_, rfl, q2 hx _ _ (I.hok.fresh (Nat.le_refl _)) ⟨rfl, rfl⟩⟩
    exact ⟨Heap.get?_push_size _ rfl, by rw [List.length_append]; exact hz, _, r1.append r2, ⟨_, Heap.get?_push_size _ rfl, rfl, _, rfl⟩⟩
def tBMT (r : V → List V → Hp → VK → Prop) (to : TE) (t : TA) : TE := fun σ H Q => to σ H fun x H1 => (∃ (p : Addr) (ob : Obj) (xs : List V), x = .ref p ∧ H1 p = some (.frz ob (.tup xs)) ∧ Bare ob) ∧ t σ H1 fun xs H2 => r x xs H2 Q
theorem pe_bmT (slot : Slot "tuple" name id) (hty : typeOf (.builtin id) = pure (.type "method_descriptor")) (hm : MtR X id r) (ho : PE X o to) (ha : PA X (e :: es) t)
    (hbase : attributeBase o name X.env (eval o X.env) = eval o X.env := by rfl)
    (hfew : ((backTo cpos (starEach (e :: es) X.env)).all (fun x => !x.1) && (backToKw cpos (keywordEach [] X.env)).all (fun x => x.1.isSome)
      && decide ((e :: es).length + ([] : List Keyword).length + (if ([] : List Keyword).isEmpty then 0 else 1) < 30)) = true := by rfl)
    (hline : (apos.endLine == cpos.line) = true := by rfl) (hs : starEach (e :: es) X.env = (false, eval e X.env) :: starEach es X.env := by rfl) (hplain : (backTo cpos (starEach es X.env)).any (·.1) = false := by rfl) :
    PE X (.Call (.Attribute o name apos) (e :: es) [] cpos) (tBMT r to t) := by
  refine ⟨fun pins s σ H Q I h => ?_⟩
  refine wpAny_Call_method_late hbase hfew hline rfl (thn (ho.run pins s σ H _ I h) fun v s1 ⟨x, H1, I1, r1, ty, q1⟩ => ?_)
  obtain ⟨p, ob, xs, rfl, hp, hcls, hdict⟩ := ty
  obtain ⟨hg, _⟩ := I1.hok p _ hp
  cases r1
  refine ⟨"tuple", id, PySem.F.plainAttrs_tuple, slot, hty, ⟨ob, hg, hcls⟩, fun a e => by cases e; exact ⟨ob, hg, hdict⟩, ?_⟩
  have hA := ha.run cpos pins s1 σ H1 _ I1 q1
  rw [hs] at hA ⊢
  refine Calls.callWith_builtin (by show (false || (backTo cpos (starEach es X.env)).any (·.1)) = false; rw [hplain] <;> rfl) (Calls.evalArgs_plain ?_)
  exact thn hA fun us s2 ⟨vs, H2, I2, r2, q2⟩ => hm pins s2 σ H2 _ vs _ us Q I2 (show RelV (.ref p) (.ref p) from rfl) r2 q2
end
end G3

set_option Elab.async false
set_option linter.all false
set_option maxRecDepth 100000
set_option maxHeartbeats 2000000
namespace G3
open PySem PySem.Spec PyProof.Rows L2
theorem idx_get {ns : List Nat} {p : Nat} (hp : p ∈ ns) : (ns.map nV)[ns.idxOf p]? = some (nV p) := by
  have hi : ns.idxOf p < ns.length := List.idxOf_lt_length_iff.mpr hp
  rw [List.getElem?_map, List.getElem?_eq_getElem hi, List.getElem_idxOf hi]; rfl
theorem idx_no {ns : List Nat} {p : Nat} (m : Nat) (z' : V) (hm : m < ns.idxOf p) (hz : (ns.map nV)[m]? = some z') : eqV z' (nV p) = false := by
  rw [List.getElem?_map] at hz
  obtain ⟨x, e1, rfl⟩ := Option.map_eq_some_iff.mp hz
  refine decide_eq_false fun e => ?_
  have e : x = p := by have : (x : Int) = p := e; omega
  subst e
  obtain ⟨hm2, e2⟩ := List.getElem?_eq_some_iff.mp e1
  have := List.not_of_lt_findIdx (p := fun y => y == x) (xs := ns) (i := m) (by simpa [List.idxOf] using hm)
  rw [e2] at this
  simp at this
section
variable {P : Program} {w : World} {K : PySem.W.Frag} {mg : Str → Option Value} {base : Heap} {C : Addr}
abbrev n_law_leads : List Str := ["edges", "ways", "k"]
abbrev p_law_leads : List Str := ["edges", "ways"]
theorem sc_law_leads : FnScope n_law_leads p_law_leads (defScope s_law_leads) := ⟨rfl, rfl, rfl, by decide +kernel, rfl, by decide +kernel, by decide +kernel⟩
abbrev n_law_away : List Str := ["pool", "n", "edges", "order", "at", "place", "u", "v"]
abbrev p_law_away : List Str := ["pool", "n", "edges"]
theorem sc_law_away : FnScope n_law_away p_law_away (defScope s_law_away) := ⟨rfl, rfl, rfl, by decide +kernel, rfl, by decide +kernel, by decide +kernel⟩
def spLeads : Sp := fun vs H Q _ => ∃ (el wl : Addr) (es : List Pr) (ws : List Int), vs = [.ref el, .ref wl] ∧ PLst H el es ∧ H wl = some (.lst (ws.map V.int)) ∧ ws.length = es.length ∧ es.length ≤ 10000 ∧
  ∀ (H' : Hp) (L : Addr), Same H H' → H L = none → PLst H' L (leads ws es) → Q (.ref L) H'
theorem ok_leads (D : DefAt K mg "_law_leads" "_law_leads" s_law_leads) (B : Bt mg) : Has P w K mg base CX0 1 "_law_leads" p_law_leads spLeads := by
  refine has_of D sc_law_leads (fun _ _ _ _ _ _ us hl => match us, hl with | [_, _], _ => rfl) (fun vs H Q E h => ?_) (fun f cdv A outer s H vs Q E hr h => ?_)
  · obtain ⟨el, wl, es, ws, rfl, _⟩ := h
    rfl
  · obtain ⟨el, wl, es, ws, rfl, ⟨us, hel, hus⟩, hwl, lw, hle, q⟩ := h
    refine ⟨_, (pss_one (ps_ret (pe_lc (own := [("k", 2)]) (g := gName 2) (tt := tYes) rfl sc_law_leads.nd (pi_range1 rfl B.range (pa_cons (pe_callB (lenK (K := K) rfl) rfl B.len PySem.boot_len (pa_cons (pv 0) pa_nil)) pa_nil)) (blkOk_by (N := n_law_leads) (sc := defScope s_law_leads) (by decide +kernel)) (fun _ _ _ _ _ => (pg_name (i := 2) sc_law_leads.nd rfl (.inl rfl))) (fun _ _ _ _ _ => pts_nil) (fun _ _ _ _ _ => (pe_ifExp (pt_cmpR op_eq (pe_ix (ixL (K := K) rfl) (pv 1) (pv 2) (fun _ _ => rfl)) pe_int (nomark _)) (pe_ix (ixL (K := K) rfl) (pv 0) (pv 2) (fun _ _ => rfl)) (pe_tup (pa_cons (pe_ix (ixT (K := K) rfl) (pe_ix (ixL (K := K) rfl) (pv 0) (pv 2) (fun _ _ => rfl)) pe_int (fun _ _ => rfl)) (pa_cons (pe_ix (ixT (K := K) rfl) (pe_ix (ixL (K := K) rfl) (pv 0) (pv 2) (fun _ _ => rfl)) pe_int (fun _ _ => rfl)) pa_nil)))))))), ?_⟩
    have lu := hus.len
    refine ⟨_, rfl, _, us.length, rfl, .inl ⟨_, SqL.of hel, rfl⟩, ?_⟩
    refine ⟨_, rfl, by omega, by omega, fun L nL => ?_⟩
    refine lc_range (lo := 0) (n := us.length) (fun i H2 => Same H H2 ∧ PLst H2 L ((leads ws es).take i)) ⟨same_upd nL, [], upd_same, True.intro⟩ ?_ ?_
    · rintro i H2 hi ⟨sm, hL⟩
      have ei : V.int (0 + (i : Int)) = nV i := by rw [Int.zero_add]
      rw [ei]
      have hie : i < es.length := by omega
      have hiw : i < ws.length := by omega
      obtain ⟨t, e1, e2⟩ := hus.get hie
      have he2 := SqL.of (K := K) (sm _ _ hel)
      have ht := SqT.of (K := K) (sm _ _ e2)
      refine ⟨rfl, yes_ ?_⟩
      refine ⟨_, rfl, _, rfl, _, _, i, _, rfl, rfl, SqL.of (sm _ _ hwl), atI_nat (getMap hiw), rfl, _, rfl, ifD (fun hd => ?_) (fun hd => ?_)⟩
      · have hd : ws[i] = 1 := by injection hd
        refine ⟨_, rfl, _, rfl, _, _, i, _, rfl, rfl, he2, atI_nat e1, ?_⟩
        obtain ⟨vs, h1, h2, h3⟩ := hL.push' (sm _ _ e2)
        refine ⟨vs, h1, size_lt (by rw [h2, List.length_take]; omega), same_mut sm nL, ?_⟩
        rw [List.take_add_one, leads_get hiw hie]
        unfold lead
        rw [if_pos hd]
        exact h3
      · have hd : ws[i] ≠ 1 := fun z => hd (by rw [z])
        refine ⟨_, rfl, _, rfl, _, _, i, _, rfl, rfl, he2, atI_nat e1, _, _, 1, _, rfl, rfl, ht, atI_nat (j := 1) rfl, ?_⟩
        refine ⟨_, rfl, _, rfl, _, _, i, _, rfl, rfl, he2, atI_nat e1, _, _, 0, _, rfl, rfl, ht, atI_nat (j := 0) rfl, ?_⟩
        refine ⟨by show 2 ≤ sizeLine; decide, fun T nT => ?_⟩
        obtain ⟨vs, h1, h2, h3⟩ := hL.push (a := es[i].2) (b := es[i].1) (Same.refl H2) nT
        refine ⟨vs, h1, size_lt (by rw [h2, List.length_take]; omega), same_mut (sm.trans (same_upd nT)) nL, ?_⟩
        rw [List.take_add_one, leads_get hiw hie]
        unfold lead
        rw [if_neg hd]
        exact h3
    · rintro H2 ⟨sm, hL⟩
      rw [List.take_of_length_le (by rw [leads_len lw]; omega)] at hL
      exact q _ _ sm nL hL
/-- the order as a tuple without a dict -/
def spOrderF : Sp := fun vs H Q _ => ∃ (a : Addr) (m : Int), vs = [.ref a, .int m] ∧ PoolAt H a ∧ 1 ≤ m ∧ m ≤ 10000 ∧ ∀ (H' : Hp) (p : Addr) (ob : Obj) (ns : List Nat), Same H H' → H' p = some (.frz ob (.tup (ns.map nV))) → Bare ob → ns.Perm (List.range m.toNat) → Q (.ref p) H'
theorem ok_orderF (D : DefAt K mg "_law_order" "_law_order" s_law_order) (B : Bt mg) (h_law_take : Has P w K mg base CX0 2 "_law_take" p_law_take spTake) : Has P w K mg base CX0 3 "_law_order" p_law_order spOrderF := by
  refine has_of D sc_law_order (fun _ _ _ _ _ _ us hl => match us, hl with | [_, _], _ => rfl) (fun vs H Q E h => ?_) (fun f cdv A outer s H vs Q E hr h => ?_)
  · obtain ⟨a, m, rfl, _⟩ := h
    rfl
  · obtain ⟨a, m, rfl, hp, h0, h1, q⟩ := h
    refine ⟨_, (pss_cons (ps_set (i := 2) sc_law_order.nd rfl (.inl rfl) (pe_listRg rfl rfl B.list (prg_1 rfl B.range (pv 1))))
  (pss_cons (ps_set (i := 3) sc_law_order.nd rfl (.inl rfl) (pe_tup pa_nil))
  (pss_cons (ps_for PassesOwn.never rfl (pi_range1 rfl B.range (pa_cons (pv 1) pa_nil)) (pg_name (i := 4) sc_law_order.nd rfl (.inl rfl)) (pss_one (ps_set (i := 3) sc_law_order.nd rfl (.inl rfl) (pe_op (op_catF (K := K) rfl) (pv 3) (pe_tupF (pa_cons (pe_bm PySem.F.plainAttrs_list PySem.F.slot_list_pop PySem.F.type_list_pop mt_popAt (pv 2) (pa_cons (pe_h h_law_take hr pass0 (pa_cons (pv 0) (pa_cons (pe_callB (lenK (K := K) rfl) rfl B.len PySem.boot_len (pa_cons (pv 2) pa_nil)) pa_nil))) pa_nil)) pa_nil))))))
  (pss_one (ps_ret (pv 3)))))), ?_⟩
    refine ⟨_, rfl, m, rfl, .of_le (by decide) (by omega) (by decide) (by omega), fun l nl => ?_⟩
    rw [rgV_nat]
    refine ⟨Nat.zero_le _, fun t nt => ?_⟩
    refine ⟨_, rfl, m, rfl, by omega, by omega, for_range (lo := 0) (n := m.toNat) (fun i σ H' => ∃ (fp : Addr) (ls fs : List Nat) (y : Option V), σ = [some (.ref a), some (.int m), some (.ref l), some (.ref fp), y] ∧ Same H H' ∧ H' l = some (.lst (ls.map nV)) ∧ (i = 0 ∧ fs = [] ∧ H' fp = some (.tup []) ∨ 1 ≤ i ∧ ∃ ob, H' fp = some (.frz ob (.tup (fs.map nV))) ∧ Bare ob) ∧ fs.length = i ∧ (fs ++ ls).Perm (List.range m.toNat)) ?_ ?_ ?_⟩
    · refine ⟨t, List.range m.toNat, [], none, rfl, (same_upd nl).trans (same_upd nt), ?_, .inl ⟨rfl, rfl, upd_same⟩, rfl, List.Perm.refl _⟩
      rw [upd_ne, upd_same]
      intro e
      rw [← e, upd_same] at nt
      cases nt
    · rintro i σ H' hi ⟨fp, ls, fs, y, rfl, sm, hl, hf, ei, pm⟩
      have el : fs.length + ls.length = m.toNat := by
        have := pm.length_eq
        rwa [List.length_append, List.length_range] at this
      have hl0 : 0 < ls.length := by omega
      have nlH : H l = none := nl
      refine ⟨_, rfl, _, rfl, .inl ⟨rfl, _, SqL.of hl⟩, _, rfl, _, rfl, _, ls.length, rfl, .inl ⟨_, SqL.of hl, by rw [List.length_map]⟩, ?_⟩
      refine ⟨a, _, rfl, hp.same sm, by omega, by omega, fun r r0 r1 => ?_⟩
      have hk : r.toNat < ls.length := by omega
      refine ⟨l, _, r, r.toNat, nV ls[r.toNat], rfl, rfl, hl, by omega, by omega, ?_, getMap hk, ?_⟩
      · rw [List.length_map]; exact seqIndex_of r0 (by omega)
      refine ⟨by show 1 ≤ sizeLine; decide, fun T ob nT bT => ?_⟩
      have hsq : SqT K H' fp (fs.map nV) := by
        rcases hf with ⟨_, rfl, h⟩ | ⟨_, ob, h, _⟩
        · exact SqT.of h
        · exact .inl (.inr ⟨_, h⟩)
      have hex : ∃ o, H' fp = some o ∧ ∀ xs, o ≠ .lst xs := by
        rcases hf with ⟨_, rfl, h⟩ | ⟨_, ob, h, _⟩
        · exact ⟨_, h, fun xs z => by cases z⟩
        · exact ⟨_, h, fun xs z => by cases z⟩
      obtain ⟨ofp, hofp, nlst⟩ := hex
      have nfl : fp ≠ l := ne_of hofp hl (nlst _)
      have nlT : l ≠ T := fun e => by rw [← e, upd_same] at nT; cases nT
      have nfT : fp ≠ T := fun e => by rw [← e, upd_ne nfl, hofp] at nT; cases nT
      have hf1 : (upd (upd H' l (.lst ((ls.map nV).eraseIdx r.toNat))) T (.frz ob (.tup [nV ls[r.toNat]]))) fp = some ofp := by rw [upd_ne nfT, upd_ne nfl]; exact hofp
      have hsq1 : SqT K (upd (upd H' l (.lst ((ls.map nV).eraseIdx r.toNat))) T (.frz ob (.tup [nV ls[r.toNat]]))) fp (fs.map nV) := by
        rcases hf with ⟨_, rfl, h⟩ | ⟨_, ob, h, _⟩
        · rw [h] at hofp; cases hofp
          exact SqT.of hf1
        · rw [h] at hofp; cases hofp
          exact .inl (.inr ⟨_, hf1⟩)
      have hT1 : (upd (upd H' l (.lst ((ls.map nV).eraseIdx r.toNat))) T (.frz ob (.tup [nV ls[r.toNat]]))) T = some (.frz ob (.tup [nV ls[r.toNat]])) := upd_same
      have hl1 : (upd (upd H' l (.lst ((ls.map nV).eraseIdx r.toNat))) T (.frz ob (.tup [nV ls[r.toNat]]))) l = some (.lst ((ls.eraseIdx r.toNat).map nV)) := by rw [upd_ne nlT, upd_same, map_erase]
      have s1 : Same H (upd (upd H' l (.lst ((ls.map nV).eraseIdx r.toNat))) T (.frz ob (.tup [nV ls[r.toNat]]))) := (same_mut sm nlH).trans (same_upd nT)
      have pm' : (fs ++ [ls[r.toNat]] ++ ls.eraseIdx r.toNat).Perm (List.range m.toNat) := by
        rw [List.append_assoc]
        exact ((erase_perm hk).append_left fs).trans pm
      refine ⟨fp, T, _, _, rfl, rfl, hsq1, .inl (.inr ⟨_, hT1⟩), size_le (by rw [List.length_map]; show fs.length + 1 ≤ 100000; omega), fun e => (nomatch e), fun e0 => ?_, fun _ p ob2 np b2 => ?_⟩
      · have e0 : fs = [] := List.map_eq_nil_iff.mp e0
        subst e0
        exact ⟨T, _, [ls[r.toNat]], _, rfl, s1, hl1, .inr ⟨by omega, ob, hT1, bT⟩, by rw [← ei]; rfl, pm'⟩
      · refine ⟨p, _, fs ++ [ls[r.toNat]], _, rfl, s1.trans (same_upd np), ?_, .inr ⟨by omega, ob2, ?_, b2⟩, by rw [List.length_append, ei]; rfl, pm'⟩
        · rw [upd_ne (ne_of_none hl1 np)]; exact hl1
        · rw [upd_same, List.map_append]; rfl
    · rintro σ H' ⟨fp, ls, fs, y, rfl, sm, hl, hf, ei, pm⟩
      have el : fs.length + ls.length = m.toNat := by
        have := pm.length_eq
        rwa [List.length_append, List.length_range] at this
      have : ls = [] := List.eq_nil_of_length_eq_zero (by omega)
      subst this
      rw [List.append_nil] at pm
      rcases hf with ⟨z, _, _⟩ | ⟨_, ob, hf, hb⟩
      · omega
      · exact ⟨_, rfl, q _ _ ob _ sm hf hb pm⟩
/-- along a drawn order -/
def spAway : Sp := fun vs H Q _ => ∃ (a el : Addr) (n : Nat) (es : List Pr), vs = [.ref a, nV n, .ref el] ∧ PoolAt H a ∧ PLst H el es ∧ (∀ e ∈ es, e.1 < n ∧ e.2 < n) ∧ 1 ≤ n ∧ n ≤ 1000 ∧ es.length ≤ 10000 ∧
  ∀ (H' : Hp) (L : Addr) (ws : List Int), Same H H' → H L = none → H' L = some (.lst (ws.map V.int)) → ws.length = es.length → (∀ z ∈ ws, z = 1 ∨ z = -1) → Q (.ref L) H'
theorem ok_away (D : DefAt K mg "_law_away" "_law_away" s_law_away) (B : Bt mg) (h_law_order : Has P w K mg base CX0 3 "_law_order" p_law_order spOrderF) : Has P w K mg base CX0 4 "_law_away" p_law_away spAway := by
  refine has_of D sc_law_away (fun _ _ _ _ _ _ us hl => match us, hl with | [_, _, _], _ => rfl) (fun vs H Q E h => ?_) (fun f cdv A outer s H vs Q E hr h => ?_)
  · obtain ⟨a, el, n, es, rfl, _⟩ := h
    rfl
  · obtain ⟨a, el, n, es, rfl, hp, ⟨us, hel, hus⟩, hes, hn0, hn, hle, q⟩ := h
    refine ⟨_, (pss_cons (ps_set (i := 3) sc_law_away.nd rfl (.inr rfl) (pe_h h_law_order hr pass0 (pa_cons (pv 0) (pa_cons (pv 1) pa_nil))))
  (pss_cons (ps_set (i := 4) sc_law_away.nd rfl (.inr rfl) (pe_lc (own := [("place", 5)]) (g := gName 5) (tt := tYes) rfl sc_law_away.nd (pi_range1 rfl B.range (pa_cons (pv 1) pa_nil)) (blkOk_by (N := n_law_away) (sc := defScope s_law_away) (by decide +kernel)) (fun _ _ _ _ _ => (pg_name (i := 5) sc_law_away.nd rfl (.inl rfl))) (fun _ _ _ _ _ => pts_nil) (fun _ _ _ _ _ => (pe_bmT PySem.F.slot_tuple_index PySem.F.type_tuple_index (mt_indexT K rfl) (pv 3) (pa_cons (pv 5) pa_nil)))))
  (pss_one (ps_ret (pe_lc (own := [("u", 6), ("v", 7)]) (g := _) (tt := tYes) rfl sc_law_away.nd (piL (K := K) rfl (pv 2)) (blkOk_by (N := n_law_away) (sc := defScope s_law_away) (by decide +kernel)) (fun _ _ _ _ _ => (pgT (K := K) (n := 2) rfl rfl (pgs_cons (pg_name (i := 6) sc_law_away.nd rfl (.inl rfl)) (pgs_cons (pg_name (i := 7) sc_law_away.nd rfl (.inl rfl)) pgs_nil)))) (fun _ _ _ _ _ => pts_nil) (fun _ _ _ _ _ => (pe_ifExp (pt_cmpR op_lt (pe_ix (ixL (K := K) rfl) (pv 4) (pv 6) (fun _ _ => rfl)) (pe_ix (ixL (K := K) rfl) (pv 4) (pv 7) (fun _ _ => rfl)) (nomark _)) pe_int (pe_un un_neg pe_int)))))))), ?_⟩
    have lu := hus.len
    refine ⟨_, rfl, _, rfl, a, n, rfl, hp, by omega, by omega, fun H1 p ob os sm1 ho hob hperm => ?_⟩
    rw [Int.toNat_natCast] at hperm
    have hos : ∀ k : Nat, k < n → k ∈ os := fun k hk => hperm.mem_iff.mpr (List.mem_range.mpr hk)
    refine ⟨_, rfl, _, rfl, by omega, by omega, fun A0 nA => ?_⟩
    refine lc_range (lo := 0) (n := n) (fun i H2 => Same H1 H2 ∧ H2 A0 = some (.lst (((List.range i).map fun k => os.idxOf k).map nV))) ⟨same_upd nA, upd_same⟩ ?_ ?_
    · rintro i H2 hi ⟨sm, hA⟩
      have ei : V.int (0 + (i : Int)) = nV i := by rw [Int.zero_add]
      rw [ei]
      refine ⟨rfl, yes_ ?_⟩
      refine ⟨_, rfl, ⟨p, ob, _, rfl, sm _ _ ho, hob⟩, _, rfl, p, _, _, os.idxOf i, nV i, rfl, rfl, .inl (.inr ⟨_, sm _ _ ho⟩), rfl, flat_nV _, idx_get (hos i (by omega)), decide_eq_true rfl, idx_no, ?_⟩
      refine ⟨_, hA, size_lt (by rw [List.length_map, List.length_map, List.length_range]; omega), same_mut sm nA, ?_⟩
      rw [upd_same, List.range_succ, List.map_append, List.map_append]; rfl
    rintro H2 ⟨sm2, hA⟩
    have hel2 := sm2 _ _ (sm1 _ _ hel)
    have hus2 := (hus.same sm1).same sm2
    refine ⟨_, rfl, el, rfl, ⟨_, SqL.of hel2⟩, fun L nL => ?_⟩
    refine lc_list (K := K) (a := el) (xs := us) (fun i H3 => Same H2 H3 ∧ ∃ ws : List Int, H3 L = some (.lst (ws.map V.int)) ∧ ws.length = i ∧ ∀ z ∈ ws, z = 1 ∨ z = -1) ⟨same_upd nL, [], upd_same, rfl, fun z h => nomatch h⟩ (fun i H3 _ p => SqL.of (p.1 _ _ hel2)) ?_ ?_
    · rintro i x H3 hx ⟨sm, ws, hL, lw, hws⟩
      have hi : i < es.length := by rw [← lu]; exact (List.getElem?_eq_some_iff.mp hx).1
      obtain ⟨t, e1, e2⟩ := hus2.get hi
      rw [hx] at e1
      obtain rfl := Option.some.inj e1
      obtain ⟨b1, b2⟩ := hes _ (List.getElem_mem hi)
      refine ⟨t, _, rfl, SqT.of (sm _ _ e2), rfl, _, _, rfl, _, _, rfl, rfl, rfl, yes_ ?_⟩
      have ga : ∀ k : Nat, k < n → (((List.range n).map fun k => os.idxOf k).map nV)[k]? = some (nV (os.idxOf k)) := fun k hk => by
        rw [List.getElem?_map, List.getElem?_map, List.getElem?_range hk]; rfl
      have fin : ∀ z : Int, z = 1 ∨ z = -1 → ∃ acc, H3 L = some (.lst acc) ∧ acc.length < sizeLine ∧ Same H2 (upd H3 L (.lst (acc ++ [.int z]))) ∧ ∃ ws : List Int, (upd H3 L (.lst (acc ++ [.int z]))) L = some (.lst (ws.map V.int)) ∧ ws.length = i + 1 ∧ ∀ z ∈ ws, z = 1 ∨ z = -1 := fun z hz =>
        ⟨_, hL, size_lt (by rw [List.length_map]; omega), same_mut sm nL, ws ++ [z], by rw [upd_same, List.map_append]; rfl, by rw [List.length_append, lw]; rfl, fun y hy => (List.mem_append.mp hy).elim (hws y) fun hy => by rw [List.mem_singleton.mp hy]; exact hz⟩
      refine ⟨_, rfl, _, rfl, _, _, es[i].1, _, rfl, rfl, SqL.of (sm _ _ hA), atI_nat (ga _ b1), ?_⟩
      refine ⟨_, rfl, _, rfl, _, _, es[i].2, _, rfl, rfl, SqL.of (sm _ _ hA), atI_nat (ga _ b2), _, _, rfl, rfl, _, rfl, ifD (fun _ => fin 1 (.inl rfl)) fun _ => ?_⟩
      exact ⟨_, rfl, fin (-1) (.inr rfl)⟩
    · rintro H3 ⟨sm, ws, hL, lw, hws⟩
      exact q _ L ws ((sm1.trans sm2).trans sm) ((sm1.trans sm2).free nL) hL (by omega) hws
end
end G3

set_option Elab.async false
set_option linter.all false
set_option maxRecDepth 100000
set_option maxHeartbeats 1000000
/-! min of a list of alike data; tuples put together, frozen; a def that raises nothing here -/
namespace G3
open PySem PySem.Spec PyProof.Rows L2
section
variable {prog : Program} {w : World} {A : Around} {E : Value → Shared → Prop} {s : Shared}
theorem min_list_ix {l : Addr} {vs : Array Value} {x : PyData} {xs : List PyData} {as : List Addr} {Q : Value → Shared → Prop} (hh : A.handled = none) (hl : s.heap.IsList l vs) (hr : ReadsAll s.heap vs.toList (x :: xs) as) (ha : PySem.W.AlikeAll (x :: xs)) (hu : A.units + 1 + PyData.depthAll (x :: xs) < cLine)
    (h : ∀ (i : Nat) v h' tk, vs[i]? = some v → (x :: xs).getD i .none = PySem.W.minD x xs → (∀ b o, s.heap.get? b = some o → h'.get? b = some o) → Q v { s with heap := h', toks := tk }) :
    wpAny (model prog w) A (call (.builtin "min") [.ref l]) Q E s := by
  have hn : vs.size = xs.length + 1 := PySem.W.readsAll_len hr
  refine PySem.call_min_walkH (PySem.W.iter_listW (A := A.in1) hh hl fun s₂ e W st hfp hw hk => ?_)
  refine ⟨_, _, _, _, _, _, _, s.heap, _, rfl, W, st, hfp, by omega, hw, hk, PySem.W.cmpIn_lt (A := A.in1) hr ha (by show A.units + 1 + _ < _; exact hu), fun v s' hP m => ?_⟩
  obtain ⟨h', tk, rfl, hk'⟩ := PySem.W.moved_old e rfl m
  have e1 : vs.size - 1 = xs.length := by omega
  have e2 := (PySem.W.argBest_fold PySem.W.dataLt PyData.none x xs xs.length (Nat.le_refl _)).2
  rw [List.take_length] at e2
  rw [e1] at hP
  exact h _ v h' tk hP e2 hk'
end
section
variable {X : Cx}
def rMinD (K : PySem.W.Frag) : List V → Hp → VK → Prop := fun vs H Q => ∃ (p : Addr) (xs : List V) (d : PyData) (ds : List PyData), vs = [.ref p] ∧ SqL K H p xs ∧ DpAll K H xs (d :: ds) ∧ PySem.W.AlikeAll (d :: ds) ∧ PyData.depthAll (d :: ds) ≤ 60 ∧
  ∀ (i : Nat) v, xs[i]? = some v → (d :: ds).getD i .none = PySem.W.minD d ds → Q v H
theorem call_minDL {K : PySem.W.Frag} (hK : X.K = K) (hc : X.calm = true) (hu : X.A.units + 64 < cLine) : CallR X (.builtin "min") (rMinD K) := by
  subst hK
  intro pins s σ H vs us Q I r h
  obtain ⟨p, xs, d, ds, rfl, hs, hd, ha, hdp, q⟩ := h
  obtain ⟨its, rv, hl, _⟩ := I.list hs
  obtain rfl := Vals.ref1 r
  obtain ⟨as, rd⟩ := Dp.readsAll I (d :: ds) xs its hd rv
  refine min_list_ix (I.ok.hd hc) hl.isList rd ha (by omega) fun i v h' tk hi e k => ?_
  have hi2 : its[i]? = some v := by simpa using hi
  have hlen : i < xs.length := by rw [rv.length]; exact (List.getElem?_eq_some_iff.mp hi2).1
  obtain ⟨u, hu2, ru⟩ := rv.get (List.getElem?_eq_getElem hlen)
  rw [hi2] at hu2
  cases hu2
  exact ⟨_, H, I.kept k, ru, q i _ (List.getElem?_eq_getElem hlen) e⟩
/-- tuples put together, the second one empty or not; a new one is frozen -/
def rCatG (K : PySem.W.Frag) : R2 := fun x y H Q => ∃ a b xs ys, x = .ref a ∧ y = .ref b ∧ SqT K H a xs ∧ SqT K H b ys ∧ xs.length + ys.length ≤ sizeLine ∧ xs ≠ [] ∧ (ys = [] → Q (.ref a) H) ∧
  (ys ≠ [] → ∀ (p : Addr) (ob : Obj), H p = none → Bare ob → Q (.ref p) (upd H p (.frz ob (.tup (xs ++ ys)))))
theorem op_catG {K : PySem.W.Frag} (hK : X.K = K) : OpR X (binaryOp .Add) (rCatG K) := by
  subst hK
  intro pins s σ H x y v u Q I rx ry h
  obtain ⟨a, b, xs, ys, rfl, rfl, ha, hb, hz, hx, q0, q2⟩ := h
  cases rx
  cases ry
  obtain ⟨its, r1, p1, _⟩ := I.tuple ha
  obtain ⟨its2, r2, p2, _⟩ := I.tuple hb
  refine HT.cat_tup p1 p2 (fun z => absurd (r1.nil_iff.mp z) hx) (fun z => ⟨.ref a, H, I, rfl, q0 (r2.nil_iff.mp z)⟩) (fun z => ?_) (by rw [← r1.length, ← r2.length]; exact hz)
  by_cases hy : ys = []
  · exact absurd (r2.nil_iff.mpr hy) (by first | exact z | exact z.2 | exact fun e => z.2 e)
  refine ⟨.ref s.heap.objs.size, _, I.laid (t' := s.toks) (o := .frz { cls := .type "tuple", data := .seq (its ++ its2).toArray } (.tup (xs ++ ys))) (fun b ob q => Heap.get?_push_of_some _ q) (Nat.le_refl _) ?_, rfl, q2 hy _ _ (I.hok.fresh (Nat.le_refl _)) ⟨rfl, rfl⟩⟩
  exact ⟨Heap.get?_push_size _ rfl, by rw [List.length_append]; exact hz, _, r1.append r2, ⟨_, Heap.get?_push_size _ rfl, rfl, _, rfl⟩⟩
end
/-- raises nothing, so it is told -/
theorem Has.quiet {P : Program} {w : World} {K : PySem.W.Frag} {mg : Str → Option Value} {base : Heap} {k : Nat} {x : Str} {ps : List Str} {sp : Sp} (h : Has P w K mg base (L2.CX P w) k x ps sp) : Has P w K mg base CX0 k x ps (fun vs H Q _ => sp vs H Q (fun _ _ _ => False)) := by
  obtain ⟨f, fd, F, m, kp, b⟩ := h
  refine ⟨f, fd, ⟨fun vs H Q E h => F.len _ _ _ _ h, fun A outer s H args us vs Q E hr e0 hb hv hs => ?_⟩, m, kp, b⟩
  refine codeAny_mono (F.run A outer s H args us vs Q _ hr e0 hb hv hs) fun r s' hq => ?_
  cases r with
  | error e =>
    obtain ⟨a, B, H', cls, d, _, _, _, _, _, _, _, z⟩ := hq
    exact z.elim
  | ok fl =>
    cases fl with
    | ret u => exact hq
    | next => exact hq
    | brk => exact hq
    | cont => exact hq
/-! ## rows of something -/
def All2 {α : Type} (R : V → α → Prop) : List V → List α → Prop
  | [], [] => True
  | v :: vs, r :: rs => R v r ∧ All2 R vs rs
  | _, _ => False
section
variable {α : Type} {R R' : V → α → Prop}
theorem All2.len : ∀ {vs : List V} {rs : List α}, All2 R vs rs → vs.length = rs.length
  | [], [], _ => rfl
  | v :: vs, r :: rs, h => by rw [List.length_cons, List.length_cons, All2.len h.2]
  | [], _ :: _, h => h.elim
  | _ :: _, [], h => h.elim
theorem All2.get : ∀ {vs : List V} {rs : List α}, All2 R vs rs → ∀ {i : Nat} {r : α}, rs[i]? = some r → ∃ v, vs[i]? = some v ∧ R v r
  | [], [], _, i, r, hi => by simp at hi
  | v :: vs, r :: rs, h, 0, r', hi => by
    cases Option.some.inj hi
    exact ⟨v, rfl, h.1⟩
  | v :: vs, r :: rs, h, i + 1, r', hi => by
    obtain ⟨u, h1, h2⟩ := All2.get h.2 (i := i) (r := r') (by simpa using hi)
    exact ⟨u, by simpa using h1, h2⟩
  | [], _ :: _, h, _, _, _ => h.elim
  | _ :: _, [], h, _, _, _ => h.elim
theorem All2.get' {vs : List V} {rs : List α} (h : All2 R vs rs) {i : Nat} {v : V} (hv : vs[i]? = some v) : ∃ r, rs[i]? = some r ∧ R v r := by
  have hi : i < rs.length := by rw [← h.len]; exact (List.getElem?_eq_some_iff.mp hv).1
  obtain ⟨u, h1, h2⟩ := h.get (List.getElem?_eq_getElem hi)
  rw [hv] at h1
  cases h1
  exact ⟨_, List.getElem?_eq_getElem hi, h2⟩
theorem All2.app : ∀ {vs vs2 : List V} {rs rs2 : List α}, All2 R vs rs → All2 R vs2 rs2 → All2 R (vs ++ vs2) (rs ++ rs2)
  | [], _, [], _, _, h => h
  | v :: vs, _, r :: rs, _, h, h2 => ⟨h.1, All2.app h.2 h2⟩
  | [], _, _ :: _, _, h, _ => h.elim
  | _ :: _, _, [], _, h, _ => h.elim
theorem All2.snoc {vs : List V} {rs : List α} {v : V} {r : α} (h : All2 R vs rs) (hr : R v r) : All2 R (vs ++ [v]) (rs ++ [r]) := h.app ⟨hr, True.intro⟩
theorem All2.mono (m : ∀ v r, R v r → R' v r) : ∀ {vs : List V} {rs : List α}, All2 R vs rs → All2 R' vs rs
  | [], [], _ => True.intro
  | v :: vs, r :: rs, h => ⟨m _ _ h.1, All2.mono m h.2⟩
  | [], _ :: _, h => h.elim
  | _ :: _, [], h => h.elim
end
/-- a row of places, laid frozen -/
def Frz (H : Hp) (v : V) (r : List Nat) : Prop := ∃ (t : Addr) (ob : Obj), v = .ref t ∧ H t = some (.frz ob (.tup (r.map fun n : Nat => V.int (n : Int)))) ∧ Bare ob
theorem Frz.same {H H' : Hp} {v : V} {r : List Nat} (h : Frz H v r) (e : Same H H') : Frz H' v r := by
  obtain ⟨t, ob, h1, h2, h3⟩ := h
  exact ⟨t, ob, h1, e _ _ h2, h3⟩
theorem frzAll_same {H H' : Hp} {vs : List V} {rs : List (List Nat)} (h : All2 (Frz H) vs rs) (e : Same H H') : All2 (Frz H') vs rs := h.mono fun _ _ h => h.same e
/-- a row of numbers, as a tuple -/
def TupI (K : PySem.W.Frag) (H : Hp) (v : V) (r : List Int) : Prop := ∃ t : Addr, v = .ref t ∧ SqT K H t (r.map V.int)
theorem TupI.same {K : PySem.W.Frag} {H H' : Hp} {v : V} {r : List Int} (h : TupI K H v r) (e : Same H H') : TupI K H' v r := by
  obtain ⟨t, h1, h2⟩ := h
  exact ⟨t, h1, Same.seqT e h2⟩
theorem tupIAll_same {K : PySem.W.Frag} {H H' : Hp} {vs : List V} {rs : List (List Int)} (h : All2 (TupI K H) vs rs) (e : Same H H') : All2 (TupI K H') vs rs := h.mono fun _ _ h => h.same e
end G3

set_option Elab.async false
set_option linter.all false
set_option maxRecDepth 100000
set_option maxHeartbeats 2000000
namespace G3
open PySem PySem.Spec PyProof.Rows L2
theorem xf_ofO {prog : Program} {K : PySem.W.Frag} {mg : Str → Option Value} {x : Str} {C fI : Addr} (T : SupX.SupTxt prog K mg x C fI) : XfC K C := ⟨T.ga, T.gg, T.exC, T.hdC⟩
/-- what the error's class is to itself and to the others -/
structure ErrO (K : PySem.W.Frag) (mg : Str → Option Value) (CE CB : Addr) : Prop where
  g : mg "ChipError" = some (.ref CE)
  bb : PySem.W.exmOne K (.ref CB) (.ref CB) = some true
  be : PySem.W.kitOne K (.ref CB) (.ref CE) = some true
def numP : V → PyData
  | .int i => .int i
  | _ => .none
theorem RowP.num {p : PyData → Bool} {K : PySem.W.Frag} {H : Hp} {v r : V} {n : Nat} {ns : List Int} (h : RowP p K H v n r ns) (ne : r ≠ .bl true) (K' : PySem.W.Frag) (H' : Hp) : Dp K' H' r (numP r) := by
  cases h with
  | good _ _ _ _ => exact absurd rfl ne
  | kind _ _ => exact .non
  | long _ _ _ => exact .non
  | bad _ _ _ _ _ _ _ => exact .int _
section
variable {P : Program} {w : World} {K : PySem.W.Frag} {mg : Str → Option Value} {base : Heap} {C : Addr}
abbrev n_law_refused : List Str := ["word", "graph", "ways", "wrong"]
abbrev p_law_refused : List Str := ["word", "graph", "ways"]
theorem sc_law_refused : FnScope n_law_refused p_law_refused (defScope s_law_refused) := ⟨rfl, rfl, rfl, by decide +kernel, rfl, by decide +kernel, by decide +kernel⟩
def spRefO (K : PySem.W.Frag) (C : Addr) : Sp := fun vs H Q _ => ∃ (g : Addr) (n : Nat) (es : List Pr) (x : Str) (v r : V), vs = [.str x, .ref g, v] ∧ Gk H C g n es ∧ RowP isSign K H v es.length r [] ∧ r ≠ .bl true ∧
  ∀ (H' : Hp) (y : V), Same H H' → Dp K H' y (.tuple [.str "refused", numP r, .bool true]) → Q y H'
theorem ok_refused {CE CB fB : Addr} (D : DefAt K mg "_law_refused" "_law_refused" s_law_refused) (B : Bt mg) (TB : SupX.SupTxt P K mg "BadOrientation" CB fB) (EC : ErrO K mg CE CB)
    (h_is_acyclic : Has P w K mg base (L2.CX P w) 4 "is_acyclic" p_is_acyclic (spAcyc K C CB)) (h_sources : Has P w K mg base (L2.CX P w) 3 "sources" p_sources (spSrc K C CB)) (h_ordered : Has P w K mg base (L2.CX P w) 3 "ordered" p_ordered (spOrd K C CB)) :
    Has P w K mg base CX0 5 "_law_refused" p_law_refused (spRefO K C) := by
  refine has_of D sc_law_refused (fun _ _ _ _ _ _ us hl => match us, hl with | [_, _, _], _ => rfl) (fun vs H Q E h => ?_) (fun f cdv A outer s H vs Q E hr h => ?_)
  · obtain ⟨g, n, es, x, v, r, rfl, _⟩ := h
    rfl
  · obtain ⟨g, n, es, x, v, r, rfl, gr, hv, ne, q⟩ := h
    refine ⟨_, (pss_cons (ps_try_mas rfl rfl sc_law_refused.nd (i := 3) rfl rfl takes0 (fun W pn xe tk po => (pss_one (ps_if (pt_cmpR op_eq (pv 0) pe_str (nomark _)) (pss_one (ps_expr (pe_hS h_is_acyclic hr (fun σ => passAt tk σ) (pa_cons (pv 1) (pa_cons (pv 2) pa_nil))))) (pss_one (ps_if (pt_cmpR op_eq (pv 0) pe_str (nomark _)) (pss_one (ps_expr (pe_hS h_sources hr (fun σ => passAt tk σ) (pa_cons (pv 1) (pa_cons (pv 2) pa_nil))))) (pss_one (ps_expr (pe_hS h_ordered hr (fun σ => passAt tk σ) (pa_cons (pv 1) (pa_cons (pv 2) pa_nil)))))))))) (.cons ⟨rfl, by decide, .inl TB.gC⟩ (fun a oe cls d pn hz hf => (pss_one (ps_ret (pe_tup (pa_cons pe_str (pa_cons (pe_xf (xf_ofO TB) TB.noN hz hf (pv 3)) (pa_cons (pe_callB (call_isT (K := K) rfl hz) rfl B.isinstance (by decide +kernel) (pa_cons (pv 3) (pa_cons (pe_glob (v := .ref CE) rfl EC.g rfl) pa_nil))) pa_nil))))))) .nil))
  (pss_one (ps_ret (pe_tup (pa_cons pe_str (pa_cons pe_non (pa_cons pe_non pa_nil))))))), ?_⟩
    have fin : ∀ (H' : Hp) (T : Addr), Same H H' → H' T = none → Q (.ref T) (upd H' T (.tup [.str "refused", r, .bl true])) := fun H' T sm nT =>
      q _ _ (sm.trans (same_upd nT)) (.tup (SqT.of upd_same) (.cons (.str "refused") (.cons (hv.num ne _ _) (.cons (.bl true) .nil))))
    refine ⟨_, rfl, rfl, _, rfl, ifD (fun _ => ?_) (fun _ => ⟨_, rfl, rfl, _, rfl, ifD (fun _ => ?_) (fun _ => ?_)⟩)⟩
    · refine ⟨_, rfl, _, rfl, g, n, es, v, r, [], rfl, gr, hv, fun H' sm e => absurd e ne, fun H' l sm nl _ hx => ?_⟩
      refine ⟨_, EC.bb, fun _ a na => ?_, fun z => nomatch z⟩
      refine ⟨_, rfl, rfl, rfl, l, _, r, rfl, hx, rfl, ?_⟩
      refine ⟨_, rfl, .ref CE, .ref CE, rfl, fun u h => h, EC.be, ?_⟩
      exact ⟨by show 3 ≤ sizeLine; decide, fun T nT => fin _ _ sm nT⟩
    · refine ⟨_, rfl, _, rfl, g, n, es, v, r, [], rfl, gr, hv, fun H' _ sm e => absurd e ne, fun H' l sm nl _ hx => ?_⟩
      refine ⟨_, EC.bb, fun _ a na => ?_, fun z => nomatch z⟩
      refine ⟨_, rfl, rfl, rfl, l, _, r, rfl, hx, rfl, ?_⟩
      refine ⟨_, rfl, .ref CE, .ref CE, rfl, fun u h => h, EC.be, ?_⟩
      exact ⟨by show 3 ≤ sizeLine; decide, fun T nT => fin _ _ sm nT⟩
    · refine ⟨_, rfl, _, rfl, g, n, es, v, r, [], rfl, gr, hv, fun H' _ sm e => absurd e ne, fun H' l sm nl _ hx => ?_⟩
      refine ⟨_, EC.bb, fun _ a na => ?_, fun z => nomatch z⟩
      refine ⟨_, rfl, rfl, rfl, l, _, r, rfl, hx, rfl, ?_⟩
      refine ⟨_, rfl, .ref CE, .ref CE, rfl, fun u h => h, EC.be, ?_⟩
      exact ⟨by show 3 ≤ sizeLine; decide, fun T nT => fin _ _ sm nT⟩
end
end G3

set_option Elab.async false
set_option linter.all false
set_option maxRecDepth 100000
set_option maxHeartbeats 2000000
namespace G3
open PySem PySem.Spec PyProof.Rows L2
section
variable {P : Program} {w : World} {K : PySem.W.Frag} {mg : Str → Option Value} {base : Heap} {C : Addr}
abbrev n_law_first : List Str := ["n", "leads", "left", "found", "turn", "free", "place", "one", "other"]
abbrev p_law_first : List Str := ["n", "leads"]
theorem sc_law_first : FnScope n_law_first p_law_first (defScope s_law_first) := ⟨rfl, rfl, rfl, by decide +kernel, rfl, by decide +kernel, by decide +kernel⟩
def spFirst : Sp := fun vs H Q _ => ∃ (n : Nat) (L : Addr) (ls : List Pr), vs = [nV n, .ref L] ∧ n ≤ 64 ∧ PLst H L ls ∧ ls.length ≤ 1000 ∧
  ∀ (H' : Hp) (y : V), Same H H' → (match ordA n ls with | none => y = .non | some o => ∃ l, y = .ref l ∧ H' l = some (.tup (o.map nV))) → Q y H'
theorem ok_first (D : DefAt K mg "_law_first" "_law_first" s_law_first) (B : Bt mg) : Has P w K mg base CX0 1 "_law_first" p_law_first spFirst := by
  refine has_of D sc_law_first (fun _ _ _ _ _ _ us hl => match us, hl with | [_, _], _ => rfl) (fun vs H Q E h => ?_) (fun f cdv A outer s H vs Q E hr h => ?_)
  · obtain ⟨n, L, ls, rfl, _⟩ := h
    rfl
  · obtain ⟨n, L, ls, rfl, hn64, ⟨us, hL, hus⟩, hls, q⟩ := h
    refine ⟨_, (pss_cons (ps_asg (pe_tup (pa_cons (pe_listRg rfl rfl B.list (prg_1 rfl B.range (pv 0))) (pa_cons (pe_tup pa_nil) pa_nil))) (pgT (K := K) (n := 2) rfl rfl (pgs_cons (pg_name (i := 2) sc_law_first.nd rfl (.inr rfl)) (pgs_cons (pg_name (i := 3) sc_law_first.nd rfl (.inl rfl)) pgs_nil))))
  (pss_cons (ps_for PassesOwn.never rfl (pi_range1 rfl B.range (pa_cons (pv 0) pa_nil)) (pg_name (i := 4) sc_law_first.nd rfl (.inl rfl)) (Evl.pss_cut (ps_setLc (i := 5) (own := [("place", 6)]) (g := gName 6) (tt := _) rfl sc_law_first.nd rfl rfl (sw_true rfl rfl rfl (by decide +kernel)) (piL (K := K) rfl (pv 2)) (blkOk_by (N := n_law_first) (sc := defScope s_law_first) (by decide +kernel)) (fun _ _ _ _ _ => (pg_name (i := 6) sc_law_first.nd rfl (.inr rfl))) (fun _ _ _ _ _ => (pts_one (pt_not (pt_val (pe_callB (anyK (K := K) rfl rfl) rfl B.any (by decide +kernel) (pa_cons (pe_lc (own := [("one", 7), ("other", 8)]) (g := _) (tt := tYes) rfl sc_law_first.nd (piL (K := K) rfl (pv 1)) (blkOk_by (N := n_law_first) (sc := _) (by rfl)) (fun _ _ _ _ _ => (pgT (K := K) (n := 2) rfl rfl (pgs_cons (pg_name (i := 7) sc_law_first.nd rfl (.inl rfl)) (pgs_cons (pg_name (i := 8) sc_law_first.nd rfl (.inl rfl)) pgs_nil)))) (fun _ _ _ _ _ => pts_nil) (fun _ _ _ _ _ => (pe_and (pe_cmpR op_eq (pv 8) (pv 6) (nomark _)) (pe_one (pe_cmpR (inK (K := K) rfl) (pv 7) (pv 2) (by rfl)))))) pa_nil)))))) (fun _ _ _ _ _ => (pv 6)))
  (pss_cons (ps_if (pt_not (pt_truth (pv 5) (by intro _; rfl))) (pss_one (ps_ret pe_non)) pss_nil)
  (pss_cons (ps_set (i := 3) sc_law_first.nd rfl (.inl rfl) (pe_op (catK (K := K) rfl) (pv 3) (pe_tup (pa_cons (pe_ix (ixL (K := K) rfl) (pv 5) pe_int (fun _ _ => rfl)) pa_nil))))
  (pss_one (ps_expr (pe_bm PySem.F.plainAttrs_list PySem.F.slot_list_remove PySem.F.type_list_remove mt_remove (pv 2) (pa_cons (pe_ix (ixL (K := K) rfl) (pv 5) pe_int (fun _ _ => rfl)) pa_nil))))))))
  (pss_one (ps_ret (pv 3))))), ?_⟩
    refine ⟨_, rfl, (n : Int), rfl, .of_le (by decide) (by omega) (by decide) (by omega), fun lf nlf => ?_⟩
    have en : rgV 0 (n : Int) = (List.range n).map nV := rgV_nat (m := (n : Int)) |>.trans (by rfl)
    have slf : Same H (upd H lf (.lst (rgV 0 (n : Int)))) := same_upd nlf
    have hlf : (upd H lf (.lst (rgV 0 (n : Int)))) lf = some (.lst ((List.range n).map nV)) := by rw [upd_same, en]
    generalize upd H lf (.lst (rgV 0 (n : Int))) = H3 at slf hlf ⊢
    refine ⟨by show 0 ≤ sizeLine; decide, fun F0 nF0 => ?_⟩
    have sF0 : Same H3 (upd H3 F0 (.tup [])) := same_upd nF0
    have hF0 : (upd H3 F0 (.tup [])) F0 = some (.tup []) := upd_same
    have hlf4 := sF0 _ _ hlf
    generalize upd H3 F0 (.tup []) = H4 at sF0 hF0 hlf4 ⊢
    refine ⟨by show 2 ≤ sizeLine; decide, fun T0 nT0 => ?_⟩
    have sT0 : Same H4 (upd H4 T0 (.tup [.ref lf, .ref F0])) := same_upd nT0
    have hT0 : (upd H4 T0 (.tup [.ref lf, .ref F0])) T0 = some (.tup [.ref lf, .ref F0]) := upd_same
    have hF05 := sT0 _ _ hF0
    have hlf5 := sT0 _ _ hlf4
    generalize upd H4 T0 (.tup [.ref lf, .ref F0]) = H5 at sT0 hT0 hF05 hlf5 ⊢
    have s05 := (slf.trans sF0).trans sT0
    refine ⟨T0, _, rfl, SqT.of hT0, rfl, _, _, rfl, _, _, rfl, rfl, ?_⟩
    refine ⟨_, rfl, _, rfl, by omega, by omega, for_range (lo := 0) (n := n) (fun i σ' H' => ∃ (y z : Option V) (F : Addr) (left fd : List Nat), σ' = [some (nV n), some (.ref L), some (.ref lf), some (.ref F), y, z, none, none, none] ∧ Same H H' ∧ H' lf = some (.lst (left.map nV)) ∧ H' F = some (.tup (fd.map nV)) ∧ fd.length = i ∧ i + left.length = n ∧
      ordA n ls = (ordF left.length left ls).map (fun o => fd ++ o)) ?_ ?_ ?_⟩
    · refine ⟨_, _, F0, List.range n, [], rfl, s05, hlf5, hF05, rfl, by rw [List.length_range]; omega, ?_⟩
      rw [List.length_range]
      show _ = Option.map (fun o => o) _
      rw [Option.map_id']; rfl
    · rintro i σ' H5 hi ⟨y, z, F, left, fd, rfl, s05, hl5, hF5, em, el, eo⟩
      have hL5 := s05 _ _ hL
      have hus5 := hus.same s05
      rcases hleft : left with _ | ⟨p0, left'⟩
      · exfalso
        rw [hleft] at el
        have : i + 0 = n := el
        omega
      refine ⟨fun σ' H6 => ∃ y Fr, σ' = [some (nV n), some (.ref L), some (.ref lf), some (.ref F), y, some (.ref Fr), none, none, none] ∧ Same H5 H6 ∧ H5 Fr = none ∧ H6 Fr = some (.lst ((freeL left ls).map nV)), ?_, ?_⟩
      · refine ⟨_, rfl, lf, rfl, ⟨_, SqL.of hl5⟩, fun Fr nFr => ?_⟩
        refine lc_list (K := K) (a := lf) (xs := left.map nV) (fun i H6 => Same H5 H6 ∧ H6 Fr = some (.lst (((left.take i).filter fun p => !busy left ls p).map nV))) ⟨same_upd nFr, upd_same⟩ (fun i H6 _ p => SqL.of (p.1 _ _ hl5)) ?_ ?_
        · rintro i x H6 hx ⟨sm, hFr⟩
          rw [List.getElem?_map] at hx
          obtain ⟨p, hp, rfl⟩ := Option.map_eq_some_iff.mp hx
          have hi : i < left.length := (List.getElem?_eq_some_iff.mp hp).1
          refine ⟨rfl, ?_⟩
          refine ⟨_, rfl, L, rfl, ⟨_, SqL.of (sm _ _ hL5)⟩, fun L2 nL2 => ?_⟩
          refine lc_list (K := K) (a := L) (xs := us) (fun j H7 => Same H6 H7 ∧ H7 L2 = some (.lst (((busyB left ls p).take j).map V.bl))) ⟨same_upd nL2, upd_same⟩ (fun j H7 _ p => SqL.of (p.1 _ _ (sm _ _ hL5))) ?_ ?_
          · rintro j x H7 hx ⟨sm7, hL7⟩
            have hj : j < ls.length := by rw [← hus5.len]; exact (List.getElem?_eq_some_iff.mp hx).1
            obtain ⟨t, e1, e2⟩ := hus5.get hj
            rw [hx] at e1
            obtain rfl := Option.some.inj e1
            refine ⟨t, _, rfl, SqT.of (sm7 _ _ (sm _ _ e2)), rfl, _, _, rfl, _, _, rfl, rfl, rfl, yes_ ?_⟩
            have eb : (busyB left ls p)[j]? = some (decide (ls[j].2 = p) && left.contains ls[j].1) := by
              unfold busyB
              rw [List.getElem?_map, List.getElem?_eq_getElem hj]; rfl
            have fin : ∀ b, b = (decide (ls[j].2 = p) && left.contains ls[j].1) → ∃ acc, H7 L2 = some (.lst acc) ∧ acc.length < sizeLine ∧ Same H6 (upd H7 L2 (.lst (acc ++ [.bl b]))) ∧ (upd H7 L2 (.lst (acc ++ [.bl b]))) L2 = some (.lst (((busyB left ls p).take (j + 1)).map V.bl)) := fun b hb => by
              refine ⟨_, hL7, size_lt ?_, same_mut sm7 nL2, ?_⟩
              · rw [List.length_map, List.length_take]; omega
              · rw [upd_same, List.take_add_one, eb, List.map_append, hb]; rfl
            refine ⟨_, rfl, _, rfl, rfl, ?_⟩
            have eq2 : (decide (nV ls[j].2 = nV p)) = decide (ls[j].2 = p) := decide_eq_decide.mpr ⟨fun h => by injection h with h; omega, fun h => by rw [h]⟩
            by_cases c : ls[j].2 = p
            · refine ⟨_, rfl, ?_⟩
              rw [eq2, decide_eq_true c, if_pos rfl]
              refine ⟨_, rfl, _, rfl, lf, _, rfl, .inl (SqL.of (sm7 _ _ (sm _ _ hl5))), rfl, flat_nV _, fin _ ?_⟩
              show inV (nV ls[j].1) (left.map nV) = _
              rw [inV_nV, decide_eq_true c, Bool.true_and]
            · refine ⟨_, rfl, ?_⟩
              rw [eq2, decide_eq_false c, if_neg Bool.false_ne_true]
              refine fin _ ?_
              rw [decide_eq_false c, Bool.false_and]
          · rintro H7 ⟨sm7, hL7⟩
            have lb : us.length = (busyB left ls p).length := by unfold busyB; rw [List.length_map, hus5.len]
            rw [lb, List.take_length] at hL7
            refine ⟨L2, _, rfl, SqL.of hL7, _, rfl, ?_⟩
            rw [busyB_any]
            have ef := filter_take (f := fun p => !busy left ls p) hp
            show ite ((!busy left ls p) = true) _ _
            cases hb : (!busy left ls p) with
            | true =>
              refine iteT ⟨_, rfl, _, sm7 _ _ hFr, size_lt ?_, same_mut (sm.trans sm7) nFr, ?_⟩
              · rw [List.length_map]
                have := List.length_filter_le (fun p => !busy left ls p) (left.take i)
                rw [List.length_take] at this
                omega
              · rw [upd_same, ef, if_pos hb, List.map_append]; rfl
            | false =>
              refine iteF ⟨sm.trans sm7, ?_⟩
              rw [ef, if_neg (by rw [hb]; exact Bool.false_ne_true), List.append_nil]
              exact sm7 _ _ hFr
        · rintro H6 ⟨sm, hFr⟩
          rw [List.length_map, List.take_length] at hFr
          exact ⟨_, _, rfl, sm, nFr, hFr⟩
      · rintro σ' H6 ⟨y, Fr, rfl, sm, nFr, hFr⟩
        have hF6 := sm _ _ hF5
        have hl6 := sm _ _ hl5
        have s06 := s05.trans sm
        have eord : ordF left.length left ls = match freeL left ls with
            | [] => none
            | p :: _ => (ordF left'.length (left.erase p) ls).map fun o => p :: o := by rw [hleft]; rfl
        rcases hfree : freeL left ls with _ | ⟨p, rest⟩
        · rw [hfree] at hFr eord
          refine ⟨_, rfl, _, .inl ⟨_, SqL.of hFr, rfl⟩, ?_⟩
          refine iteT ?_
          refine q _ _ s06 ?_
          rw [eo, eord]
          exact rfl
        · rw [hfree] at hFr eord
          refine ⟨_, rfl, _, .inl ⟨_, SqL.of hFr, rfl⟩, ?_⟩
          refine iteF ?_
          have hpl : p ∈ left := (freeL_mem.mp (hfree ▸ List.mem_cons_self (a := p) (l := rest))).1
          refine ⟨_, rfl, _, rfl, _, _, 0, nV p, rfl, rfl, SqL.of hFr, atI_nat (j := 0) rfl, by show 1 ≤ sizeLine; decide, fun T nT => ?_⟩
          have sT : Same H6 (upd H6 T (.tup [nV p])) := same_upd nT
          have hT : (upd H6 T (.tup [nV p])) T = some (.tup [nV p]) := upd_same
          show rCatA K (.ref F) (.ref T) (upd H6 T (.tup [nV p])) _
          generalize upd H6 T (.tup [nV p]) = H7 at sT hT ⊢
          have ll := List.length_erase_of_mem hpl
          have l1 : left.length = left'.length + 1 := by rw [hleft]; rfl
          have fin : ∀ (H8 : Hp) (F2 : Addr), Same H7 H8 → H8 F2 = some (.tup ((fd ++ [p]).map nV)) → (upd H8 lf (.lst ((left.erase p).map nV))) lf = some (.lst ((left.erase p).map nV)) ∧ Same H (upd H8 lf (.lst ((left.erase p).map nV))) ∧ (upd H8 lf (.lst ((left.erase p).map nV))) F2 = some (.tup ((fd ++ [p]).map nV)) ∧ H8 lf = some (.lst (left.map nV)) ∧ H8 Fr = some (.lst ((p :: rest).map nV)) := fun H8 F2 s8 h8 => by
            have hl8 := s8 _ _ (sT _ _ hl6)
            refine ⟨upd_same, same_mut ((s06.trans sT).trans s8) nlf, ?_, hl8, s8 _ _ (sT _ _ hFr)⟩
            rw [upd_ne (ne_of h8 hl8 (fun z => by cases z))]
            exact h8
          have ord2 : ordA n ls = (ordF (left.erase p).length (left.erase p) ls).map (fun o => (fd ++ [p]) ++ o) := by
            rw [eo, eord, show (left.erase p).length = left'.length by omega]
            show Option.map _ (Option.map _ _) = _
            rw [Option.map_map]
            congr 1
            funext o
            show fd ++ (p :: o) = fd ++ [p] ++ o
            rw [List.append_assoc]; rfl
          obtain ⟨j, r1, r2, r3, r4⟩ := rem_dat hpl
          refine ⟨F, T, _, _, rfl, rfl, SqT.of (sT _ _ hF6), SqT.of hT, size_le (by rw [List.length_map]; show fd.length + 1 ≤ 100000; omega), fun e0 => ?_, fun _ e => (nomatch e), fun _ _ F2 nF2 => ?_⟩
          · have e0 : fd = [] := List.map_eq_nil_iff.mp e0
            subst e0
            obtain ⟨g1, g2, g3, g4, g5⟩ := fin H7 T (Same.refl _) hT
            refine ⟨_, rfl, .inl ⟨rfl, _, SqL.of g4⟩, _, rfl, _, _, 0, nV p, rfl, rfl, SqL.of g5, atI_nat (j := 0) rfl, ?_⟩
            rw [r1] at g4
            refine ⟨lf, _, p, j, rfl, rfl, g4, r2, r3, ?_⟩
            rw [r4]
            exact ⟨_, _, T, left.erase p, [] ++ [p], rfl, g2, g1, g3, by rw [← em]; rfl, by omega, ord2⟩
          · have s8 : Same H7 (upd H7 F2 (.tup (fd.map nV ++ [nV p]))) := same_upd nF2
            have h8 : (upd H7 F2 (.tup (fd.map nV ++ [nV p]))) F2 = some (.tup ((fd ++ [p]).map nV)) := by rw [upd_same, List.map_append]; rfl
            generalize upd H7 F2 (.tup (fd.map nV ++ [nV p])) = H8 at s8 h8 ⊢
            obtain ⟨g1, g2, g3, g4, g5⟩ := fin H8 F2 s8 h8
            refine ⟨_, rfl, .inl ⟨rfl, _, SqL.of g4⟩, _, rfl, _, _, 0, nV p, rfl, rfl, SqL.of g5, atI_nat (j := 0) rfl, ?_⟩
            rw [r1] at g4
            refine ⟨lf, _, p, j, rfl, rfl, g4, r2, r3, ?_⟩
            rw [r4]
            exact ⟨_, _, F2, left.erase p, fd ++ [p], rfl, g2, g1, g3, by rw [List.length_append, em]; rfl, by omega, ord2⟩
    · rintro σ' H5 ⟨y, z, F, left, fd, rfl, s05, hl5, hF5, em, el, eo⟩
      have : left = [] := List.eq_nil_of_length_eq_zero (by omega)
      subst this
      refine ⟨_, rfl, q _ _ s05 ?_⟩
      rw [eo]
      exact ⟨F, rfl, by rw [hF5]; show _ = some (HO.tup ((fd ++ []).map nV)); rw [List.append_nil]⟩
end
end G3

set_option Elab.async false
set_option linter.all false
set_option maxRecDepth 100000
set_option maxHeartbeats 2000000
namespace G3
open PySem PySem.Spec PyProof.Rows L2
/-! ## all orders of places -/
def ordsL : Nat → List Nat → List (List Nat)
  | 0, _ => [[]]
  | k + 1, xs => xs.flatMap fun p => (ordsL k (xs.filter fun q => !decide (q = p))).map fun r => p :: r
theorem ordsL_len : ∀ (k : Nat) (xs r : List Nat), r ∈ ordsL k xs → r.length = k
  | 0, xs, r, h => by rw [List.mem_singleton.mp h]; rfl
  | k + 1, xs, r, h => by
    obtain ⟨p, _, h1⟩ := List.mem_flatMap.mp h
    obtain ⟨r', h2, e⟩ := List.mem_map.mp h1
    rw [← e, List.length_cons, ordsL_len k _ r' h2]
theorem flat_len {F : Nat → List (List Nat)} {M : Nat} (h : ∀ p, (F p).length ≤ M) : ∀ l : List Nat, (l.flatMap F).length ≤ l.length * M
  | [] => by simp
  | p :: l => by
    have := flat_len h l
    have := h p
    rw [List.flatMap_cons, List.length_append, List.length_cons, Nat.add_mul]
    omega
theorem ordsL_many : ∀ (k : Nat) (xs : List Nat), xs.length ≤ 5 → (ordsL k xs).length ≤ 5 ^ k
  | 0, xs, h => Nat.le_refl _
  | k + 1, xs, h => by
    have h1 : (ordsL (k + 1) xs).length ≤ xs.length * 5 ^ k := flat_len (fun p => by
      rw [List.length_map]
      exact ordsL_many k _ (Nat.le_trans (List.length_filter_le _ _) h)) xs
    have h2 : xs.length * 5 ^ k ≤ 5 * 5 ^ k := Nat.mul_le_mul_right _ h
    rw [Nat.pow_succ, Nat.mul_comm]
    omega
theorem filter_one {xs : List Nat} (h : xs.Nodup) {p : Nat} (hp : p ∈ xs) : (xs.filter fun q => !decide (q = p)).length + 1 = xs.length := by
  have e : xs.erase p = xs.filter fun q => !decide (q = p) := h.erase_eq_filter p
  rw [← e, List.length_erase_of_mem hp]
  have := List.length_pos_of_mem hp
  omega
theorem flat_snoc {F : Nat → List (List Nat)} {xs : List Nat} {i p : Nat} (h : xs[i]? = some p) : (xs.take (i + 1)).flatMap F = (xs.take i).flatMap F ++ F p := by
  rw [List.take_add_one, h, List.flatMap_append]
  congr 1
  show [p].flatMap F = _
  simp
section
variable {P : Program} {w : World} {K : PySem.W.Frag} {mg : Str → Option Value} {base : Heap} {C : Addr}
abbrev n_law_orders : List Str := ["places", "found", "place", "row", "other"]
abbrev p_law_orders : List Str := ["places"]
theorem sc_law_orders : FnScope n_law_orders p_law_orders (defScope s_law_orders) := ⟨rfl, rfl, rfl, by decide +kernel, rfl, by decide +kernel, by decide +kernel⟩
def spOrders (m : Nat) : Sp := fun vs H Q _ => ∃ (a : Addr) (xs : List Nat), vs = [.ref a] ∧ H a = some (.lst (xs.map nV)) ∧ xs.Nodup ∧ xs.length < m ∧ xs.length ≤ 5 ∧
  ∀ (H' : Hp) (L : Addr) (us : List V), Same H H' → H' L = some (.lst us) → All2 (Frz H') us (ordsL xs.length xs) → Q (.ref L) H'
theorem ok_orders (D : DefAt K mg "_law_orders" "_law_orders" s_law_orders) (B : Bt mg) : ∀ m, Has P w K mg base CX0 (m + 1) "_law_orders" p_law_orders (spOrders m)
  | 0 => has_false D (fun _ _ _ _ _ _ us hl => match us, hl with | [_], _ => rfl) (fun vs H Q E h => by obtain ⟨a, xs, _, _, _, h, _⟩ := h; exact absurd h (Nat.not_lt_zero _))
  | m + 1 => by
    have h_law_orders := ok_orders D B m
    refine has_of D sc_law_orders (fun _ _ _ _ _ _ us hl => match us, hl with | [_], _ => rfl) (fun vs H Q E h => ?_) (fun f cdv A outer s H vs Q E hr h => ?_)
    · obtain ⟨a, xs, rfl, _⟩ := h
      rfl
    · obtain ⟨a, xs, rfl, ha, nd, hm, h5, q⟩ := h
      have hr0 : Room 1 _ := hr.mono (by omega)
      refine ⟨_, (pss_cons (ps_if (pt_not (pt_truth (pv 0) (by intro _; rfl))) (pss_one (ps_ret (pe_lst (pa_cons (pe_tupF pa_nil) pa_nil)))) pss_nil)
  (pss_cons (ps_set (i := 1) sc_law_orders.nd rfl (.inl rfl) (pe_lst pa_nil))
  (pss_cons (ps_for PassesOwn.never rfl (piL (K := K) rfl (pv 0)) (pg_name (i := 2) sc_law_orders.nd rfl (.inr rfl)) (pss_one (ps_set (i := 1) sc_law_orders.nd rfl (.inl rfl) (pe_op op_cat (pv 1) (pe_lc (own := [("row", 3)]) (g := gName 3) (tt := tYes) rfl sc_law_orders.nd (piL (K := K) rfl (pe_h h_law_orders hr pass0 (pa_cons (pe_lc (own := [("other", 4)]) (g := gName 4) (tt := _) rfl sc_law_orders.nd (piL (K := K) rfl (pv 0)) (blkOk_by (N := n_law_orders) (sc := defScope s_law_orders) (by decide +kernel)) (fun _ _ _ _ _ => (pg_name (i := 4) sc_law_orders.nd rfl (.inl rfl))) (fun _ _ _ _ _ => (pts_one (pt_cmpR op_ne (pv 4) (pv 2) (nomark _)))) (fun _ _ _ _ _ => (pv 4))) pa_nil))) (blkOk_by (N := n_law_orders) (sc := defScope s_law_orders) (by decide +kernel)) (fun _ _ _ _ _ => (pg_name (i := 3) sc_law_orders.nd rfl (.inl rfl))) (fun _ _ _ _ _ => pts_nil) (fun _ _ _ _ _ => (pe_op (op_catG (K := K) rfl) (pe_tupF (pa_cons (pv 2) pa_nil)) (pv 3))))))))
  (pss_one (ps_ret (pv 1)))))), ?_⟩
      refine ⟨_, rfl, _, .inl ⟨_, SqL.of ha, rfl⟩, ?_⟩
      rcases hx : xs with _ | ⟨p0, xs'⟩
      · refine iteT ?_
        refine ⟨by show 0 ≤ sizeLine; decide, fun t ob nt bt => ?_⟩
        refine ⟨by show 1 ≤ sizeLine; decide, fun L nL => ?_⟩
        have s1 : Same H (upd H t (.frz ob (.tup []))) := same_upd nt
        have ht : (upd H t (.frz ob (.tup []))) t = some (.frz ob (.tup [])) := upd_same
        generalize upd H t (.frz ob (.tup [])) = H1 at s1 ht nL ⊢
        have s2 : Same H1 (upd H1 L (.lst [.ref t])) := same_upd nL
        refine q _ L _ (s1.trans s2) upd_same ?_
        rw [hx]
        exact ⟨⟨t, ob, rfl, s2 _ _ ht, bt⟩, True.intro⟩
      rw [← hx]
      have lx : xs.length = xs'.length + 1 := by rw [hx]; rfl
      have ne : (!(xs.map nV).isEmpty) = true := by rw [hx]; rfl
      rw [ne]
      refine iteF ?_
      refine ⟨by show 0 ≤ sizeLine; decide, fun F0 nF0 => ?_⟩
      have hF0 : (upd H F0 (.lst [])) F0 = some (.lst []) := upd_same
      have s1 : Same H (upd H F0 (.lst [])) := same_upd nF0
      refine ⟨_, rfl, a, rfl, ⟨_, SqL.of (s1 _ _ ha)⟩, ?_⟩
      obtain ⟨F, hF⟩ : ∃ F : Nat → List (List Nat), F = fun p => (ordsL xs'.length (xs.filter fun q => !decide (q = p))).map fun r => p :: r := ⟨_, rfl⟩
      have Fle : ∀ p, (F p).length ≤ 5 ^ xs'.length := fun p => by
        rw [hF, List.length_map]
        exact ordsL_many _ _ (Nat.le_trans (List.length_filter_le _ _) h5)
      have pow5 : 5 ^ xs'.length ≤ 625 := Nat.pow_le_pow_right (n := 5) (by decide) (show xs'.length ≤ 4 by omega)
      refine for_list (K := K) (a := a) (xs := xs.map nV) (fun i σ' H' => ∃ (Fa : Addr) (y : Option V) (us : List V), σ' = [some (.ref a), some (.ref Fa), y, none, none] ∧ Same H H' ∧ H' Fa = some (.lst us) ∧ All2 (Frz H') us ((xs.take i).flatMap F)) ?_ ?_ ?_ ?_
      · exact ⟨F0, _, [], rfl, s1, hF0, True.intro⟩
      · rintro i σ' H' _ ⟨_, _, _, _, sm, _⟩
        exact SqL.of (sm _ _ ha)
      · rintro i x σ' H' hi ⟨Fa, y, us, rfl, sm, hFa, hus⟩
        rw [List.getElem?_map] at hi
        obtain ⟨p, hp, rfl⟩ := Option.map_eq_some_iff.mp hi
        have hil : i < xs.length := (List.getElem?_eq_some_iff.mp hp).1
        have pm : p ∈ xs := List.mem_of_getElem? hp
        refine ⟨_, rfl, _, rfl, a, rfl, ⟨_, SqL.of (sm _ _ ha)⟩, fun O nO => ?_⟩
        refine lc_list (K := K) (a := a) (xs := xs.map nV) (fun j H2 => Same H' H2 ∧ H2 O = some (.lst (((xs.take j).filter fun q => !decide (q = p)).map nV))) ⟨same_upd nO, upd_same⟩ (fun j H2 _ p => SqL.of (p.1 _ _ (sm _ _ ha))) ?_ ?_
        · rintro j x H2 hx2 ⟨sm2, hO⟩
          rw [List.getElem?_map] at hx2
          obtain ⟨q', hq, rfl⟩ := Option.map_eq_some_iff.mp hx2
          have ef := filter_take (f := fun q => !decide (q = p)) hq
          refine ⟨rfl, ?_⟩
          refine ⟨_, rfl, _, rfl, rfl, _, rfl, ifN (fun ne => ?_) (fun e => ?_)⟩
          · have ne : q' ≠ p := fun z => ne (by rw [z])
            refine ⟨_, rfl, _, hO, size_lt ?_, same_mut sm2 nO, ?_⟩
            · rw [List.length_map]
              have := List.length_filter_le (fun q => !decide (q = p)) (xs.take j)
              rw [List.length_take] at this
              omega
            · rw [upd_same, ef, if_pos (by rw [decide_eq_false ne]; rfl), List.map_append]; rfl
          · have e : q' = p := by injection e with e; omega
            refine ⟨sm2, ?_⟩
            rw [ef, if_neg (by rw [decide_eq_true e]; exact Bool.false_ne_true), List.append_nil]
            exact hO
        rintro H2 ⟨sm2, hO⟩
        rw [List.length_map, List.take_length] at hO
        have l1 := filter_one nd pm
        refine ⟨O, _, rfl, hO, nd.filter _, by omega, by omega, fun H3 L ws sm3 hL hws => ?_⟩
        have e1 : (xs.filter fun q => !decide (q = p)).length = xs'.length := by omega
        rw [e1] at hws
        have hrl : ∀ r ∈ ordsL xs'.length (xs.filter fun q => !decide (q = p)), r.length = xs'.length := fun r hr => ordsL_len _ _ _ hr
        have hFp : F p = (ordsL xs'.length (xs.filter fun q => !decide (q = p))).map fun r => p :: r := by rw [hF]
        have Fp := Fle p
        rw [hFp, List.length_map] at Fp
        generalize ordsL xs'.length (xs.filter fun q => !decide (q = p)) = rs at hws hrl hFp Fp
        refine ⟨L, rfl, ⟨_, SqL.of hL⟩, fun D nD => ?_⟩
        refine lc_list (K := K) (a := L) (xs := ws) (fun j H4 => Same H3 H4 ∧ ∃ ys, H4 D = some (.lst ys) ∧ All2 (Frz H4) ys ((rs.take j).map fun r => p :: r)) ⟨same_upd nD, [], upd_same, True.intro⟩ (fun j H4 _ p => SqL.of (p.1 _ _ hL)) ?_ ?_
        · rintro j x H4 hx4 ⟨sm4, ys, hD, hys⟩
          obtain ⟨r, hr1, t, ob, rfl, ht, hb⟩ := hws.get' hx4
          have lr := hrl r (List.mem_of_getElem? hr1)
          have hj : j < rs.length := (List.getElem?_eq_some_iff.mp hr1).1
          have ly := hys.len
          rw [List.length_map, List.length_take] at ly
          have ht4 := sm4 _ _ ht
          refine ⟨rfl, yes_ ?_⟩
          refine ⟨_, rfl, by show 1 ≤ sizeLine; decide, fun T ob1 nT bT => ?_⟩
          refine ⟨_, rfl, ?_⟩
          have sT : Same H4 (upd H4 T (.frz ob1 (.tup [nV p]))) := same_upd nT
          have hT : (upd H4 T (.frz ob1 (.tup [nV p]))) T = some (.frz ob1 (.tup [nV p])) := upd_same
          show rCatG K (.ref T) (.ref t) (upd H4 T (.frz ob1 (.tup [nV p]))) _
          generalize upd H4 T (.frz ob1 (.tup [nV p])) = H5 at sT hT ⊢
          have fin : ∀ (H6 : Hp) (X : Addr), Same H5 H6 → Frz H6 (.ref X) (p :: r) → ∃ acc, H6 D = some (.lst acc) ∧ acc.length < sizeLine ∧ Same H3 (upd H6 D (.lst (acc ++ [.ref X]))) ∧ ∃ ys, (upd H6 D (.lst (acc ++ [.ref X]))) D = some (.lst ys) ∧ All2 (Frz (upd H6 D (.lst (acc ++ [.ref X])))) ys ((rs.take (j + 1)).map fun r => p :: r) := fun H6 X s6 fX => by
            have hD6 := s6 _ _ (sT _ _ hD)
            have keep : ∀ v r, Frz H6 v r → Frz (upd H6 D (.lst (ys ++ [.ref X]))) v r := fun v r ⟨t, ob, a1, a2, a3⟩ => ⟨t, ob, a1, by rw [upd_ne (ne_of a2 hD6 (fun z => by cases z))]; exact a2, a3⟩
            refine ⟨ys, hD6, size_lt (by omega), same_mut ((sm4.trans sT).trans s6) nD, _, upd_same, ?_⟩
            rw [List.take_add_one, hr1, List.map_append]
            exact All2.snoc ((frzAll_same hys (sT.trans s6)).mono keep) (keep _ _ fX)
          refine ⟨T, t, _, _, rfl, rfl, .inl (.inr ⟨_, hT⟩), .inl (.inr ⟨_, sT _ _ ht4⟩), size_le (by rw [List.length_map, lr]; show 1 + _ ≤ 100000; omega), (fun z => by cases z), fun e0 => ?_, fun _ X ob2 nX b2 => ?_⟩
          · have e0 : r = [] := List.map_eq_nil_iff.mp e0
            refine fin H5 T (Same.refl _) ⟨T, ob1, rfl, ?_, bT⟩
            rw [hT, e0]; rfl
          · exact fin _ X (same_upd nX) ⟨X, ob2, rfl, upd_same, b2⟩
        · rintro H4 ⟨sm4, ys, hD, hys⟩
          have lw := hws.len
          rw [lw, List.take_length, ← hFp] at hys
          have s24 := (sm2.trans sm3).trans sm4
          have hus4 := frzAll_same hus s24
          have l3 := hus.len
          have l4 := hys.len
          have l5 := flat_len Fle (xs.take i)
          have l6 : (xs.take i).length * 5 ^ xs'.length ≤ 5 * 625 := Nat.mul_le_mul (by rw [List.length_take]; omega) pow5
          have l7 := Fle p
          refine ⟨Fa, D, _, _, rfl, rfl, s24 _ _ hFa, hD, size_le (by omega), fun N nN => ?_⟩
          have sN : Same H4 (upd H4 N (.lst (us ++ ys))) := same_upd nN
          refine ⟨N, _, us ++ ys, rfl, (sm.trans s24).trans sN, upd_same, ?_⟩
          rw [flat_snoc hp]
          exact frzAll_same (hus4.app hys) sN
      · rintro σ' H' ⟨Fa, y, us, rfl, sm, hFa, hus⟩
        rw [List.length_map, List.take_length] at hus
        refine ⟨_, rfl, q _ Fa us sm hFa ?_⟩
        rw [lx]
        show All2 (Frz H') us (xs.flatMap fun p => (ordsL xs'.length (xs.filter fun q => !decide (q = p))).map fun r => p :: r)
        rw [hF] at hus
        exact hus
end
end G3

set_option Elab.async false
set_option linter.all false
set_option maxRecDepth 100000
set_option maxHeartbeats 2000000
namespace G3
open PySem PySem.Spec PyProof.Rows L2
theorem cut_one {xs : List V} (h : 1 ≤ xs.length) : cutV xs (some 1) none = xs.drop 1 := by
  unfold cutV
  have e : HT.sIx xs.length 0 (some 1) = min 1 xs.length := HT.sIx_nat xs.length 0 1
  rw [e, HT.sIx_none, Nat.min_eq_left h]
  exact List.take_of_length_le (by rw [List.length_drop]; omega)
theorem map_snoc {α β : Type} {f : α → β} {xs : List α} {i : Nat} {x : α} (h : xs[i]? = some x) : (xs.take (i + 1)).map f = (xs.take i).map f ++ [f x] := by
  rw [List.take_add_one, h, List.map_append]; rfl
section
variable {P : Program} {w : World} {K : PySem.W.Frag} {mg : Str → Option Value} {base : Heap} {C : Addr}
abbrev n_law_all_ways : List Str := ["many", "found", "turn", "row"]
abbrev p_law_all_ways : List Str := ["many"]
theorem sc_law_all_ways : FnScope n_law_all_ways p_law_all_ways (defScope s_law_all_ways) := ⟨rfl, rfl, rfl, by decide +kernel, rfl, by decide +kernel, by decide +kernel⟩
abbrev n_law_count : List Str := ["n", "edges", "one", "other", "kept", "put", "u", "v"]
abbrev p_law_count : List Str := ["n", "edges"]
theorem sc_law_count : FnScope n_law_count p_law_count (defScope s_law_count) := ⟨rfl, rfl, rfl, by decide +kernel, rfl, by decide +kernel, by decide +kernel⟩
def spWays (K : PySem.W.Frag) : Sp := fun vs H Q _ => ∃ m : Nat, vs = [nV m] ∧ m ≤ 9 ∧ ∀ (H' : Hp) (L : Addr) (us : List V), Same H H' → H' L = some (.lst us) → All2 (TupI K H') us (waysL m) → Q (.ref L) H'
theorem ok_all_ways (D : DefAt K mg "_law_all_ways" "_law_all_ways" s_law_all_ways) (B : Bt mg) : Has P w K mg base CX0 1 "_law_all_ways" p_law_all_ways (spWays K) := by
  refine has_of D sc_law_all_ways (fun _ _ _ _ _ _ us hl => match us, hl with | [_], _ => rfl) (fun vs H Q E h => ?_) (fun f cdv A outer s H vs Q E hr h => ?_)
  · obtain ⟨m, rfl, _⟩ := h
    rfl
  · obtain ⟨m, rfl, hm, q⟩ := h
    refine ⟨_, (pss_cons (ps_set (i := 1) sc_law_all_ways.nd rfl (.inl rfl) (pe_lst (pa_cons (pe_tup pa_nil) pa_nil)))
  (pss_cons (ps_for PassesOwn.never rfl (pi_range1 rfl B.range (pa_cons (pv 0) pa_nil)) (pg_name (i := 2) sc_law_all_ways.nd rfl (.inl rfl)) (pss_one (ps_set (i := 1) sc_law_all_ways.nd rfl (.inl rfl) (pe_op op_cat (pe_lc (own := [("row", 3)]) (g := gName 3) (tt := tYes) rfl sc_law_all_ways.nd (piL (K := K) rfl (pv 1)) (blkOk_by (N := n_law_all_ways) (sc := defScope s_law_all_ways) (by decide +kernel)) (fun _ _ _ _ _ => (pg_name (i := 3) sc_law_all_ways.nd rfl (.inl rfl))) (fun _ _ _ _ _ => pts_nil) (fun _ _ _ _ _ => (pe_op (catK (K := K) rfl) (pv 3) (pe_tup (pa_cons pe_int pa_nil))))) (pe_lc (own := [("row", 3)]) (g := gName 3) (tt := tYes) rfl sc_law_all_ways.nd (piL (K := K) rfl (pv 1)) (blkOk_by (N := n_law_all_ways) (sc := defScope s_law_all_ways) (by decide +kernel)) (fun _ _ _ _ _ => (pg_name (i := 3) sc_law_all_ways.nd rfl (.inl rfl))) (fun _ _ _ _ _ => pts_nil) (fun _ _ _ _ _ => (pe_op (catK (K := K) rfl) (pv 3) (pe_tup (pa_cons (pe_un un_neg pe_int) pa_nil)))))))))
  (pss_one (ps_ret (pv 1))))), ?_⟩
    refine ⟨by show 0 ≤ sizeLine; decide, fun t nt => ?_⟩
    refine ⟨by show 1 ≤ sizeLine; decide, fun L nL => ?_⟩
    have s1 : Same H (upd H t (.tup [])) := same_upd nt
    have ht : (upd H t (.tup [])) t = some (.tup []) := upd_same
    generalize upd H t (.tup []) = H1 at s1 ht nL ⊢
    have s2 : Same H1 (upd H1 L (.lst [.ref t])) := same_upd nL
    have hL : (upd H1 L (.lst [.ref t])) L = some (.lst [.ref t]) := upd_same
    generalize upd H1 L (.lst [.ref t]) = H2 at s2 hL ⊢
    refine ⟨_, rfl, _, rfl, by omega, by omega, for_range (lo := 0) (n := m) (fun i σ H' => ∃ (y : Option V) (F : Addr) (us : List V), σ = [some (nV m), some (.ref F), y, none] ∧ Same H H' ∧ H' F = some (.lst us) ∧ All2 (TupI K H') us (waysL i)) ?_ ?_ ?_⟩
    · exact ⟨_, L, [.ref t], rfl, s1.trans s2, hL, ⟨t, rfl, SqT.of (s2 _ _ ht)⟩, True.intro⟩
    · rintro i σ H' hi ⟨y, F, us, rfl, sm, hF, hus⟩
      have lu := hus.len
      have lw := waysL_many i
      have l9 : 2 ^ i ≤ 512 := Nat.pow_le_pow_right (n := 2) (by decide) (show i ≤ 9 by omega)
      -- one comprehension
      have one : ∀ (H3 : Hp) (D : Addr) (z : Int) (H0 : Hp) (j : Nat) (x : V) (H4 : Hp) (ys : List V) (T : Addr), H0 D = none → us[j]? = some x → Same H' H0 → Same H0 H4 → H4 D = some (.lst ys) → All2 (TupI K H4) ys (((waysL i).take j).map fun r => r ++ [z]) → H4 T = none →
          ∃ t : Addr, x = .ref t ∧ rCatA K (.ref t) (.ref T) (upd H4 T (.tup [.int z])) (fun y H4 => ∃ acc, H4 D = some (.lst acc) ∧ acc.length < sizeLine ∧ (Same H0 (upd H4 D (.lst (acc ++ [y]))) ∧ ∃ ys, (upd H4 D (.lst (acc ++ [y]))) D = some (.lst ys) ∧ All2 (TupI K (upd H4 D (.lst (acc ++ [y])))) ys (((waysL i).take (j + 1)).map fun r => r ++ [z]))) := fun H3 D z H0 j x H4 ys T nD hx s0 s4 hD hys nT => by
        obtain ⟨r, hr1, t, rfl, ht⟩ := hus.get' hx
        have hj : j < (waysL i).length := (List.getElem?_eq_some_iff.mp hr1).1
        have lr := waysL_len i r (List.mem_of_getElem? hr1)
        have ly := hys.len
        rw [List.length_map, List.length_take] at ly
        have sT : Same H4 (upd H4 T (.tup [.int z])) := same_upd nT
        have hT : (upd H4 T (.tup [.int z])) T = some (.tup [.int z]) := upd_same
        refine ⟨t, rfl, ?_⟩
        generalize upd H4 T (.tup [.int z]) = H5 at sT hT ⊢
        have fin : ∀ (H6 : Hp) (X : Addr), Same H5 H6 → H6 X = some (.tup ((r ++ [z]).map V.int)) → ∃ acc, H6 D = some (.lst acc) ∧ acc.length < sizeLine ∧ (Same H0 (upd H6 D (.lst (acc ++ [.ref X]))) ∧ ∃ ys, (upd H6 D (.lst (acc ++ [.ref X]))) D = some (.lst ys) ∧ All2 (TupI K (upd H6 D (.lst (acc ++ [.ref X])))) ys (((waysL i).take (j + 1)).map fun r => r ++ [z])) := fun H6 X s6 fX => by
          have hD6 := s6 _ _ (sT _ _ hD)
          have keep : ∀ v r, TupI K H6 v r → TupI K (upd H6 D (.lst (ys ++ [.ref X]))) v r := fun v r ⟨t, a1, a2⟩ => by
            refine ⟨t, a1, ?_⟩
            rcases a2 with (a2 | ⟨o, a2⟩) | a2
            · exact .inl (.inl (by rw [upd_ne (ne_of a2 hD6 (fun z => by cases z))]; exact a2))
            · exact .inl (.inr ⟨o, by rw [upd_ne (ne_of a2 hD6 (fun z => by cases z))]; exact a2⟩)
            · exact .inr a2
          refine ⟨ys, hD6, size_lt (by omega), same_mut ((s4.trans sT).trans s6) nD, _, upd_same, ?_⟩
          rw [map_snoc hr1]
          exact All2.snoc ((tupIAll_same hys (sT.trans s6)).mono keep) (keep _ _ ⟨X, rfl, SqT.of fX⟩)
        refine ⟨t, T, _, _, rfl, rfl, Same.seqT ((s0.trans s4).trans sT) ht, SqT.of hT, size_le (by rw [List.length_map, lr]; show _ + 1 ≤ 100000; omega), fun e0 => ?_, fun _ e => (nomatch e), fun _ _ X nX => ?_⟩
        · have e0 : r = [] := List.map_eq_nil_iff.mp e0
          exact fin H5 T (Same.refl _) (by rw [hT, e0]; rfl)
        · exact fin _ X (same_upd nX) (by rw [upd_same, List.map_append]; rfl)
      refine ⟨_, rfl, F, rfl, ⟨_, SqL.of hF⟩, fun D1 nD1 => ?_⟩
      refine lc_list (K := K) (a := F) (xs := us) (fun j H4 => Same H' H4 ∧ ∃ ys, H4 D1 = some (.lst ys) ∧ All2 (TupI K H4) ys (((waysL i).take j).map fun r => r ++ [1])) ⟨same_upd nD1, [], upd_same, True.intro⟩ (fun j H4 _ p => SqL.of (p.1 _ _ hF)) ?_ ?_
      · rintro j x H4 hx ⟨s4, ys, hD, hys⟩
        refine ⟨rfl, yes_ ?_⟩
        refine ⟨_, rfl, by show 1 ≤ sizeLine; decide, fun T nT => ?_⟩
        obtain ⟨t, rfl, h⟩ := one H' D1 1 H' j x H4 ys T nD1 hx (Same.refl _) s4 hD hys nT
        exact h
      rintro H4 ⟨s4, ys1, hD1, hys1⟩
      rw [lu, List.take_length] at hys1
      refine ⟨_, rfl, F, rfl, ⟨_, SqL.of (s4 _ _ hF)⟩, fun D2 nD2 => ?_⟩
      refine lc_list (K := K) (a := F) (xs := us) (fun j H5 => Same H4 H5 ∧ ∃ ys, H5 D2 = some (.lst ys) ∧ All2 (TupI K H5) ys (((waysL i).take j).map fun r => r ++ [-1])) ⟨same_upd nD2, [], upd_same, True.intro⟩ (fun j H5 _ p => SqL.of (p.1 _ _ (s4 _ _ hF))) ?_ ?_
      · rintro j x H5 hx ⟨s5, ys, hD, hys⟩
        refine ⟨rfl, yes_ ?_⟩
        refine ⟨_, rfl, _, rfl, by show 1 ≤ sizeLine; decide, fun T nT => ?_⟩
        obtain ⟨t, rfl, h⟩ := one H' D2 (-1) H4 j x H5 ys T nD2 hx s4 s5 hD hys nT
        exact h
      rintro H5 ⟨s5, ys2, hD2, hys2⟩
      rw [lu, List.take_length] at hys2
      have l1 := hys1.len
      have l2 := hys2.len
      rw [List.length_map] at l1 l2
      refine ⟨D1, D2, _, _, rfl, rfl, s5 _ _ hD1, hD2, size_le (by omega), fun N nN => ?_⟩
      have sN : Same H5 (upd H5 N (.lst (ys1 ++ ys2))) := same_upd nN
      exact ⟨_, N, ys1 ++ ys2, rfl, ((sm.trans s4).trans s5).trans sN, upd_same, tupIAll_same ((tupIAll_same hys1 s5).app hys2) sN⟩
    · rintro σ H' ⟨y, F, us, rfl, sm, hF, hus⟩
      exact ⟨_, rfl, q _ F us sm hF hus⟩
/-! ### how many are without rings -/
def spCount (m : Nat) : Sp := fun vs H Q _ => ∃ (a : Addr) (k : Int) (es : List Pr), vs = [.int k, .ref a] ∧ PLst H a es ∧ es.length < m ∧ es.length ≤ 1000 ∧ ∀ H', Same H H' → Q (.int (cntA es)) H'
theorem ok_count (D : DefAt K mg "_law_count" "_law_count" s_law_count) (B : Bt mg) : ∀ m, Has P w K mg base CX0 (m + 1) "_law_count" p_law_count (spCount m)
  | 0 => has_false D (fun _ _ _ _ _ _ us hl => match us, hl with | [_, _], _ => rfl) (fun vs H Q E h => by obtain ⟨a, k, es, _, _, h, _⟩ := h; exact absurd h (Nat.not_lt_zero _))
  | m + 1 => by
    have h_law_count := ok_count D B m
    refine has_of D sc_law_count (fun _ _ _ _ _ _ us hl => match us, hl with | [_, _], _ => rfl) (fun vs H Q E h => ?_) (fun f cdv A outer s H vs Q E hr h => ?_)
    · obtain ⟨a, k, es, rfl, _⟩ := h
      rfl
    · obtain ⟨a, k, es, rfl, ⟨us, ha, hus⟩, hm, h1000, q⟩ := h
      have hr0 : Room 1 _ := hr.mono (by omega)
      refine ⟨_, (pss_cons (ps_if (pt_val (pe_callB (anyK (K := K) rfl rfl) rfl B.any (by decide +kernel) (pa_cons (pe_lc (own := [("one", 2), ("other", 3)]) (g := _) (tt := tYes) rfl sc_law_count.nd (piL (K := K) rfl (pv 1)) (blkOk_by (N := n_law_count) (sc := defScope s_law_count) (by decide +kernel)) (fun _ _ _ _ _ => (pgT (K := K) (n := 2) rfl rfl (pgs_cons (pg_name (i := 2) sc_law_count.nd rfl (.inl rfl)) (pgs_cons (pg_name (i := 3) sc_law_count.nd rfl (.inl rfl)) pgs_nil)))) (fun _ _ _ _ _ => pts_nil) (fun _ _ _ _ _ => (pe_cmpR op_eq (pv 2) (pv 3) (nomark _)))) pa_nil))) (pss_one (ps_ret pe_int)) pss_nil)
  (pss_cons (ps_if (pt_not (pt_truth (pv 1) (by intro _; rfl))) (pss_one (ps_ret pe_int)) pss_nil)
  (pss_cons (ps_asg (pe_ix (ixL (K := K) rfl) (pv 1) pe_int (fun _ _ => rfl)) (pgT (K := K) (n := 2) rfl rfl (pgs_cons (pg_name (i := 2) sc_law_count.nd rfl (.inr rfl)) (pgs_cons (pg_name (i := 3) sc_law_count.nd rfl (.inr rfl)) pgs_nil))))
  (pss_cons (ps_set (i := 4) sc_law_count.nd rfl (.inl rfl) (pe_slice (slL (K := K) rfl) (pv 1) (po_some pe_int) po_none))
  (pss_cons (ps_setLc (i := 5) (own := [("u", 6), ("v", 7)]) (g := _) (tt := tYes) rfl sc_law_count.nd rfl rfl (sw_true rfl rfl rfl (by decide +kernel)) (piL (K := K) rfl (pv 4)) (blkOk_by (N := n_law_count) (sc := defScope s_law_count) (by decide +kernel)) (fun _ _ _ _ _ => (pgT (K := K) (n := 2) rfl rfl (pgs_cons (pg_name (i := 6) sc_law_count.nd rfl (.inl rfl)) (pgs_cons (pg_name (i := 7) sc_law_count.nd rfl (.inl rfl)) pgs_nil)))) (fun _ _ _ _ _ => pts_nil) (fun _ _ _ _ _ => (pe_tup (pa_cons (pe_ifExp (pt_cmpR op_eq (pv 6) (pv 3) (nomark _)) (pv 2) (pv 6)) (pa_cons (pe_ifExp (pt_cmpR op_eq (pv 7) (pv 3) (nomark _)) (pv 2) (pv 7)) pa_nil)))))
  (pss_one (ps_ret (pe_op op_add (pe_h h_law_count hr pass0 (pa_cons (pv 0) (pa_cons (pv 4) pa_nil))) (pe_h h_law_count hr pass0 (pa_cons (pe_op op_sub (pv 0) pe_int) (pa_cons (pv 5) pa_nil))))))))))), ?_⟩
      have lu := hus.len
      refine ⟨_, rfl, a, rfl, ⟨_, SqL.of ha⟩, fun L nL => ?_⟩
      refine lc_list (K := K) (a := a) (xs := us) (fun i H2 => Same H H2 ∧ H2 L = some (.lst (((es.map fun e => decide (e.1 = e.2)).take i).map V.bl))) ⟨same_upd nL, upd_same⟩ (fun i H2 _ p => SqL.of (p.1 _ _ ha)) ?_ ?_
      · rintro i x H2 hx ⟨sm, hL⟩
        have hi : i < es.length := by rw [← lu]; exact (List.getElem?_eq_some_iff.mp hx).1
        obtain ⟨t, e1, e2⟩ := hus.get hi
        rw [hx] at e1
        obtain rfl := Option.some.inj e1
        refine ⟨t, _, rfl, SqT.of (sm _ _ e2), rfl, _, _, rfl, _, _, rfl, rfl, rfl, yes_ ?_⟩
        have eb : (es.map fun e => decide (e.1 = e.2))[i]? = some (decide (es[i].1 = es[i].2)) := by rw [List.getElem?_map, List.getElem?_eq_getElem hi]; rfl
        have eq2 : (decide (nV es[i].1 = nV es[i].2)) = decide (es[i].1 = es[i].2) := decide_eq_decide.mpr ⟨fun h => by injection h with h; omega, fun h => by rw [h]⟩
        refine ⟨_, rfl, _, rfl, rfl, ?_⟩
        refine ⟨_, hL, size_lt (by rw [List.length_map, List.length_take]; omega), same_mut sm nL, ?_⟩
        rw [upd_same, List.take_add_one, eb, List.map_append, ← eq2]; rfl
      rintro H2 ⟨sm2, hL⟩
      rw [List.take_of_length_le (by rw [List.length_map]; omega)] at hL
      refine ⟨L, _, rfl, SqL.of hL, _, rfl, ?_⟩
      have hany : ((es.map fun e => decide (e.1 = e.2)).any id = true) ↔ ∃ e ∈ es, e.1 = e.2 := by
        rw [List.any_map, List.any_eq_true]
        exact ⟨fun ⟨e, h1, h2⟩ => ⟨e, h1, of_decide_eq_true h2⟩, fun ⟨e, h1, h2⟩ => ⟨e, h1, decide_eq_true h2⟩⟩
      show ite ((es.map fun e => decide (e.1 = e.2)).any id = true) _ _
      refine ifB (fun hl => ?_) (fun hl => ?_)
      · obtain ⟨⟨x, y⟩, he, e⟩ := hany.mp hl
        have e : x = y := e
        subst e
        have := q H2 sm2
        rw [cntA_loop he] at this
        exact this
      have noloop : ∀ e ∈ es, e.1 ≠ e.2 := fun e he z => by rw [hany.mpr ⟨e, he, z⟩] at hl; cases hl
      have ha2 := sm2 _ _ ha
      have hus2 := hus.same sm2
      refine ⟨_, rfl, _, .inl ⟨_, SqL.of ha2, rfl⟩, ?_⟩
      rcases hes : es with _ | ⟨⟨x, y⟩, es'⟩
      · rw [hes] at lu
        have : us = [] := List.eq_nil_of_length_eq_zero lu
        subst this
        refine iteT ?_
        have := q H2 sm2
        rw [hes, cntA_nil] at this
        exact this
      rcases us with _ | ⟨u, us'⟩
      · rw [hes] at lu; cases lu
      rw [hes] at hus2
      obtain ⟨⟨t, rfl, ht⟩, hus'⟩ := hus2
      refine iteF ?_
      have ne : x ≠ y := noloop (x, y) (by rw [hes]; exact List.mem_cons_self ..)
      refine ⟨_, rfl, _, _, 0, .ref t, rfl, rfl, SqL.of ha2, atI_nat (j := 0) rfl, ?_⟩
      refine ⟨t, _, rfl, SqT.of ht, rfl, _, _, rfl, _, _, rfl, rfl, ?_⟩
      -- kept
      refine ⟨_, rfl, _, rfl, a, _, rfl, SqL.of ha2, fun kp nkp => ?_⟩
      have ec : cutV (.ref t :: us') (some 1) none = us' := cut_one (by rw [List.length_cons]; omega)
      have s3 : Same H2 (upd H2 kp (.lst (cutV (.ref t :: us') (some 1) none))) := same_upd nkp
      have hkp : (upd H2 kp (.lst (cutV (.ref t :: us') (some 1) none))) kp = some (.lst us') := by rw [upd_same, ec]
      generalize upd H2 kp (.lst (cutV (.ref t :: us') (some 1) none)) = H3 at s3 hkp ⊢
      have hus3 := hus'.same s3
      have lu' := hus'.len
      have lm : es'.length < m := by rw [hes] at hm; exact Nat.lt_of_succ_lt_succ hm
      have l1000 : es'.length ≤ 1000 := by rw [hes] at h1000; exact Nat.le_trans (Nat.le_succ _) h1000
      -- put
      refine ⟨_, rfl, kp, rfl, ⟨_, SqL.of hkp⟩, fun pt npt => ?_⟩
      refine lc_list (K := K) (a := kp) (xs := us') (fun i H4 => Same H3 H4 ∧ PLst H4 pt ((es'.take i).map (putE x y))) ⟨same_upd npt, [], upd_same, True.intro⟩ (fun i H4 _ p => SqL.of (p.1 _ _ hkp)) ?_ ?_
      · rintro i v H4 hx ⟨sm, hpt⟩
        have hi : i < es'.length := by rw [← lu']; exact (List.getElem?_eq_some_iff.mp hx).1
        obtain ⟨t', e1, e2⟩ := hus3.get hi
        rw [hx] at e1
        obtain rfl := Option.some.inj e1
        refine ⟨t', _, rfl, SqT.of (sm _ _ e2), rfl, _, _, rfl, _, _, rfl, rfl, rfl, yes_ ?_⟩
        have hie : es'[i]? = some es'[i] := List.getElem?_eq_getElem hi
        have fin : ∀ (a b : Nat), (a, b) = putE x y es'[i] → 2 ≤ sizeLine ∧ ∀ T, H4 T = none → ∃ acc, (upd H4 T (.tup [nV a, nV b])) pt = some (.lst acc) ∧ acc.length < sizeLine ∧ (Same H3 (upd (upd H4 T (.tup [nV a, nV b])) pt (.lst (acc ++ [.ref T]))) ∧ PLst (upd (upd H4 T (.tup [nV a, nV b])) pt (.lst (acc ++ [.ref T]))) pt ((es'.take (i + 1)).map (putE x y))) := fun a b eab => by
          refine ⟨by decide, fun T nT => ?_⟩
          obtain ⟨vs, h1, h2, h3⟩ := hpt.push (a := a) (b := b) (Same.refl H4) nT
          refine ⟨vs, h1, size_lt (by rw [h2, List.length_map, List.length_take]; omega), same_mut (sm.trans (same_upd nT)) npt, ?_⟩
          rw [map_snoc hie, ← eab]
          exact h3
        have e1 : ∀ b : Nat, nV b = nV y ↔ b = y := fun b => ⟨fun h => by injection h with h; omega, fun h => by rw [h]⟩
        refine ⟨_, rfl, _, rfl, rfl, _, rfl, ifD (fun c1 => ⟨_, rfl, ?_⟩) (fun c1 => ⟨_, rfl, ?_⟩)⟩
        · have c1 := (e1 _).mp c1
          refine ⟨_, rfl, _, rfl, rfl, _, rfl, ifD (fun c2 => ⟨_, rfl, ?_⟩) (fun c2 => ⟨_, rfl, ?_⟩)⟩
          · have c2 := (e1 _).mp c2
            exact fin x x (by unfold putE put1; rw [if_pos c1, if_pos c2])
          · have c2 := fun z => c2 ((e1 _).mpr z)
            exact fin x _ (by unfold putE put1; rw [if_pos c1, if_neg c2])
        · have c1 := fun z => c1 ((e1 _).mpr z)
          refine ⟨_, rfl, _, rfl, rfl, _, rfl, ifD (fun c2 => ⟨_, rfl, ?_⟩) (fun c2 => ⟨_, rfl, ?_⟩)⟩
          · have c2 := (e1 _).mp c2
            exact fin _ x (by unfold putE put1; rw [if_neg c1, if_pos c2])
          · have c2 := fun z => c2 ((e1 _).mpr z)
            exact fin _ _ (by unfold putE put1; rw [if_neg c1, if_neg c2])
      · rintro H4 ⟨sm4, hpt⟩
        rw [lu', List.take_length] at hpt
        refine ⟨_, rfl, _, rfl, kp, k, es', rfl, ⟨us', sm4 _ _ hkp, hus3.same sm4⟩, lm, l1000, fun H5 sm5 => ?_⟩
        refine ⟨_, rfl, _, _, rfl, rfl, _, rfl, pt, _, _, rfl, hpt.same sm5, by rw [List.length_map]; exact lm, by rw [List.length_map]; exact l1000, fun H6 sm6 => ?_⟩
        refine ⟨_, _, rfl, rfl, ?_⟩
        have := q H6 ((((sm2.trans s3).trans sm4).trans sm5).trans sm6)
        rw [hes, cntA_cons ne] at this
        exact this
end
end G3

set_option Elab.async false
set_option linter.all false
set_option maxRecDepth 100000
set_option maxHeartbeats 1000000
namespace G3
open PySem PySem.Spec PyProof.Rows L2
/-! ## plain: the first order is the least that fits -/
theorem ordsL_perm : ∀ (k : Nat) (xs r : List Nat), xs.length = k → xs.Nodup → r ∈ ordsL k xs → r.Perm xs
  | 0, xs, r, hl, nd, h => by rw [List.mem_singleton.mp h, List.length_eq_zero_iff.mp hl]
  | k + 1, xs, r, hl, nd, h => by
    obtain ⟨p, hp, h1⟩ := List.mem_flatMap.mp h
    obtain ⟨r', h2, e⟩ := List.mem_map.mp h1
    have e2 : xs.erase p = xs.filter fun q => !decide (q = p) := nd.erase_eq_filter p
    have ih := ordsL_perm k _ r' (by have := filter_one nd hp; omega) (nd.filter _) h2
    rw [← e]
    rw [← e2] at ih
    exact (ih.cons p).trans (List.perm_cons_erase hp).symm
theorem ordsL_all : ∀ (k : Nat) (xs r : List Nat), xs.length = k → xs.Nodup → r.Perm xs → r ∈ ordsL k xs
  | 0, xs, r, hl, nd, h => by
    rw [List.length_eq_zero_iff.mp hl] at h
    rw [h.eq_nil]
    exact List.mem_singleton.mpr rfl
  | k + 1, xs, r, hl, nd, h => by
    rcases r with _ | ⟨p, r⟩
    · have := h.length_eq
      rw [hl] at this; cases this
    · have hp : p ∈ xs := h.mem_iff.mp (List.mem_cons_self ..)
      have e2 : xs.erase p = xs.filter fun q => !decide (q = p) := nd.erase_eq_filter p
      have h2 : r.Perm (xs.erase p) := (h.trans (List.perm_cons_erase hp)).cons_inv
      rw [e2] at h2
      exact List.mem_flatMap.mpr ⟨p, hp, List.mem_map.mpr ⟨r, ordsL_all k _ r (by have := filter_one nd hp; omega) (nd.filter _) h2, rfl⟩⟩
def fitB (ls : List Pr) (r : List Nat) : Bool := ls.all fun l => decide (r.idxOf l.1 < r.idxOf l.2)
def fitL (n : Nat) (ls : List Pr) : List (List Nat) := (ordsL n (List.range n)).filter fun r => fitB ls r
theorem fitB_iff {ls : List Pr} {r : List Nat} : fitB ls r = true ↔ ∀ l ∈ ls, r.idxOf l.1 < r.idxOf l.2 := by
  unfold fitB
  rw [List.all_eq_true]
  exact ⟨fun h l hl => of_decide_eq_true (h l hl), fun h l hl => decide_eq_true (h l hl)⟩
theorem fit_none {n : Nat} {ls : List Pr} (hb : ∀ l ∈ ls, l.1 < n ∧ l.2 < n) (h : ordA n ls = none) : fitL n ls = [] := by
  rw [List.eq_nil_iff_forall_not_mem]
  intro r hr
  obtain ⟨_, h2⟩ := List.mem_filter.mp hr
  have := (ordA_iff hb).mpr ⟨fun x => r.idxOf x, fitB_iff.mp h2⟩
  rw [h] at this; cases this
theorem range_lt : ∀ n : Nat, (List.range n).Pairwise (· < ·) := fun n => List.pairwise_lt_range
theorem fit_some {n : Nat} {ls : List Pr} {o : List Nat} (hb : ∀ l ∈ ls, l.1 < n ∧ l.2 < n) (h : ordA n ls = some o) : o ∈ fitL n ls ∧ ∀ r ∈ fitL n ls, o = r ∨ ltN o r := by
  have hp := ordF_perm n (List.range n) ls o List.length_range h
  have ht := ordF_topo n (List.range n) ls o List.length_range List.nodup_range h
  refine ⟨List.mem_filter.mpr ⟨ordsL_all n _ o List.length_range List.nodup_range hp, fitB_iff.mpr fun l hl => ?_⟩, fun r hr => ?_⟩
  · have := hb l hl
    exact ht l hl (List.mem_range.mpr this.1) (List.mem_range.mpr this.2)
  · obtain ⟨h1, h2⟩ := List.mem_filter.mp hr
    have hr2 := ordsL_perm n _ r List.length_range List.nodup_range h1
    exact ordF_least n (List.range n) o r List.length_range (range_lt n) h hr2 fun l hl _ _ => fitB_iff.mp h2 l hl
theorem fit_len {n : Nat} {ls : List Pr} {r : List Nat} (h : r ∈ fitL n ls) : r.length = n := ordsL_len n _ r (List.mem_filter.mp h).1
/-- where the order begins, no edge leads -/
theorem srcs_some {n : Nat} {ls : List Pr} {o : List Nat} (hn : 1 ≤ n) (hb : ∀ l ∈ ls, l.1 < n ∧ l.2 < n) (h : ordA n ls = some o) : srcs n ls ≠ [] := by
  obtain ⟨k, rfl⟩ : ∃ k, n = k + 1 := ⟨n - 1, by omega⟩
  have h : ordF (k + 1) (List.range (k + 1)) ls = some o := h
  unfold ordF at h
  cases hf : freeL (List.range (k + 1)) ls with
  | nil => rw [hf] at h; cases h
  | cons p r =>
    obtain ⟨hp, hfree⟩ := freeL_mem.mp (hf ▸ List.mem_cons_self (a := p) (l := r))
    intro z
    have : p ∈ srcs (k + 1) ls := by
      unfold srcs
      refine List.mem_filter.mpr ⟨hp, ?_⟩
      rw [Bool.not_eq_true', ← Bool.not_eq_true]
      intro hc
      obtain ⟨l, hl, e⟩ := List.mem_map.mp (List.contains_iff_mem.mp hc)
      exact hfree l hl e (List.mem_range.mpr (hb l hl).1)
    rw [z] at this; cases this
/-! ### as data -/
def natI (r : List Nat) : List Int := r.map fun n : Nat => (n : Int)
theorem ints_nV (r : List Nat) : (natI r).map V.int = r.map nV := List.map_map
def tupD (r : List Nat) : PyData := .tuple ((natI r).map .int)
theorem lex_ints : ∀ a b : List Nat, PyProof.Rows.lexLt itemOrd (PySem.W.keyToksAll ((natI a).map PyData.int)) (PySem.W.keyToksAll ((natI b).map PyData.int)) = true ↔ ltN a b
  | [], [] => by
    have e : PyProof.Rows.lexLt itemOrd [.inl 0] [.inl 0] = false := (lex_self (O := itemOrd) _ [] []).trans rfl
    show PyProof.Rows.lexLt itemOrd [.inl 0] [.inl 0] = true ↔ False
    exact ⟨fun h => (by rw [e] at h; cases h), fun h => h.elim⟩
  | [], b :: bs => by
    have e : PyProof.Rows.lexLt itemOrd (PySem.W.keyToksAll ((natI []).map PyData.int)) (PySem.W.keyToksAll ((natI (b :: bs)).map PyData.int)) = true := by
      show PyProof.Rows.lexLt itemOrd [.inl 0] (PySem.W.keyToksAll (.int b :: (natI bs).map PyData.int)) = true
      rw [PySem.W.toks_all_cons, lex_diff (O := itemOrd) (by intro z; cases z)]
      rfl
    exact ⟨fun _ => True.intro, fun _ => e⟩
  | a :: as, [] => by
    have e : PyProof.Rows.lexLt itemOrd (PySem.W.keyToksAll ((natI (a :: as)).map PyData.int)) (PySem.W.keyToksAll ((natI []).map PyData.int)) = false := by
      show PyProof.Rows.lexLt itemOrd (PySem.W.keyToksAll (.int a :: (natI as).map PyData.int)) [.inl 0] = false
      rw [PySem.W.toks_all_cons, lex_diff (O := itemOrd) (by intro z; cases z)]
      rfl
    exact ⟨fun h => (by rw [e] at h; cases h), fun h => h.elim⟩
  | a :: as, b :: bs => by
    show PyProof.Rows.lexLt itemOrd (PySem.W.keyToksAll (.int a :: (natI as).map PyData.int)) (PySem.W.keyToksAll (.int b :: (natI bs).map PyData.int)) = true ↔ (a < b ∨ (a = b ∧ ltN as bs))
    have al : PySem.W.alike (.int (a : Int)) (.int (b : Int)) = true := by simp [PySem.W.alike]
    by_cases c : a = b
    · subst c
      rw [PySem.W.dataLt_all_yes al (by simp [PyData.eqv]), lex_ints as bs]
      exact ⟨fun h => .inr ⟨rfl, h⟩, fun h => h.elim (fun h => absurd h (Nat.lt_irrefl _)) fun h => h.2⟩
    · rw [PySem.W.dataLt_all_no al (by simp [PyData.eqv]; omega), PySem.W.dataLt_int, decide_eq_true_iff]
      exact ⟨fun h => .inl (by omega), fun h => h.elim (fun h => by omega) fun h => absurd h.1 c⟩
theorem tup_lt {a b : List Nat} : PySem.W.dataLt (tupD a) (tupD b) = true ↔ ltN a b := by
  unfold tupD
  rw [PySem.W.dataLt_tuple]
  exact lex_ints a b
theorem ltN_asy : ∀ {a b : List Nat}, ltN a b → ¬ ltN b a
  | [], [], h, _ => h
  | [], _ :: _, _, h => h
  | _ :: _, [], h, _ => h
  | a :: as, b :: bs, h1, h2 => by
    rcases h1 with h1 | ⟨e, h1⟩ <;> rcases h2 with h2 | ⟨e2, h2⟩
    · omega
    · omega
    · omega
    · exact ltN_asy h1 h2
theorem min_fold {o : List Nat} : ∀ (rs : List (List Nat)) (acc : List Nat), (∀ r ∈ rs, o = r ∨ ltN o r) → (acc = o ∨ (ltN o acc ∧ o ∈ rs)) → (rs.map tupD).foldl (fun a y => if PySem.W.dataLt y a then y else a) (tupD acc) = tupD o
  | [], acc, _, h => by
    rcases h with h | ⟨_, h⟩
    · rw [h]; rfl
    · cases h
  | y :: rs, acc, hall, h => by
    have hr : ∀ r ∈ rs, o = r ∨ ltN o r := fun r h => hall r (List.mem_cons_of_mem _ h)
    have hy := hall y (List.mem_cons_self ..)
    rw [List.map_cons, List.foldl_cons]
    rcases h with h | ⟨h1, h2⟩
    · subst h
      have : ¬ PySem.W.dataLt (tupD y) (tupD acc) = true := fun z => by
        have z := tup_lt.mp z
        rcases hy with e | e
        · subst e; exact ltN_irr _ z
        · exact ltN_asy e z
      rw [if_neg this]
      exact min_fold rs acc hr (.inl rfl)
    · rcases hy with e | e
      · subst e
        rw [if_pos (tup_lt.mpr h1)]
        exact min_fold rs o hr (.inl rfl)
      · have m : o ∈ rs := by
          rcases List.mem_cons.mp h2 with z | z
          · subst z; exact absurd e (ltN_irr _)
          · exact z
        split
        · exact min_fold rs y hr (.inr ⟨e, m⟩)
        · exact min_fold rs acc hr (.inr ⟨h1, m⟩)
theorem min_tups {o r : List Nat} {rs : List (List Nat)} (ho : o ∈ r :: rs) (hall : ∀ x ∈ r :: rs, o = x ∨ ltN o x) : PySem.W.minD (tupD r) (rs.map tupD) = tupD o := by
  unfold PySem.W.minD
  refine min_fold rs r (fun x hx => hall x (List.mem_cons_of_mem _ hx)) ?_
  rcases hall r (List.mem_cons_self ..) with e | e
  · exact .inl e.symm
  · refine .inr ⟨e, ?_⟩
    rcases List.mem_cons.mp ho with z | z
    · subst z; exact absurd e (ltN_irr _)
    · exact z
theorem tupD_inj : ∀ {a b : List Nat}, tupD a = tupD b → a = b := fun {a b} h => by
  have h : (natI a).map PyData.int = (natI b).map PyData.int := by unfold tupD at h; injection h
  have h2 : natI a = natI b := (List.map_inj_right (fun x y e => by injection e)).mp h
  exact (List.map_inj_right (fun x y e => by omega)).mp h2
theorem alike_ints : ∀ a b : List Int, PySem.W.alikeAll (a.map PyData.int) (b.map PyData.int) = true
  | [], _ => by simp [PySem.W.alikeAll]
  | _ :: _, [] => by simp [PySem.W.alikeAll]
  | a :: as, b :: bs => by
    have ih := alike_ints as bs
    rw [List.map_cons, List.map_cons]
    simp [PySem.W.alikeAll, PySem.W.alike, ih]
theorem alike_tups (rs : List (List Nat)) : PySem.W.AlikeAll (rs.map tupD) := by
  refine ⟨fun x hx y hy => ?_, fun x hx => ?_⟩
  · obtain ⟨a, _, rfl⟩ := List.mem_map.mp hx
    obtain ⟨b, _, rfl⟩ := List.mem_map.mp hy
    unfold tupD
    rw [PySem.W.alike]
    exact alike_ints _ _
  · obtain ⟨a, _, rfl⟩ := List.mem_map.mp hx
    exact fun z => by cases z
theorem depth_intsO : ∀ ns : List Int, PyData.depthAll (ns.map PyData.int) ≤ 3
  | [] => by simp [PyData.depthAll]
  | x :: ns => by
    have ih := depth_intsO ns
    rw [List.map_cons]
    simp only [PyData.depthAll, PyData.depth]
    omega
theorem depth_tups : ∀ rs : List (List Nat), PyData.depthAll (rs.map tupD) ≤ 10
  | [] => by simp [PyData.depthAll]
  | r :: rs => by
    have ih := depth_tups rs
    have h := depth_intsO (natI r)
    rw [List.map_cons]
    simp only [PyData.depthAll, PyData.depth, tupD]
    omega
theorem frz_dp {K : PySem.W.Frag} {H : Hp} {v : V} {r : List Nat} (h : Frz H v r) : Dp K H v (tupD r) := by
  obtain ⟨t, ob, rfl, h2, _⟩ := h
  refine .tup (.inl (.inr ⟨ob, ?_⟩)) (dpAll_ints (natI r))
  rw [ints_nV]
  exact h2
theorem frz_all {K : PySem.W.Frag} {H : Hp} : ∀ {vs : List V} {rs : List (List Nat)}, All2 (Frz H) vs rs → DpAll K H vs (rs.map tupD)
  | [], [], _ => .nil
  | v :: vs, r :: rs, h => by
    rw [List.map_cons]
    exact .cons (frz_dp h.1) (frz_all h.2)
  | [], _ :: _, h => h.elim
  | _ :: _, [], h => h.elim
end G3

set_option Elab.async false
set_option linter.all false
set_option maxRecDepth 100000
set_option maxHeartbeats 2000000
namespace G3
open PySem PySem.Spec PyProof.Rows L2
/-! ### one sign, k times, k maybe 0 -/
theorem size_foldO (a : Array Nat) : ∀ (k : Nat) (acc : Array Nat), ((List.replicate k a).foldl (· ++ ·) acc).size = acc.size + k * a.size
  | 0, acc => by simp
  | k + 1, acc => by
    rw [List.replicate_succ, List.foldl_cons, size_foldO a k, Array.size_append, Nat.add_mul]
    omega
def rRepS0 : R2 := fun x y H Q => ∃ (z : Str) (k : Nat), x = .str z ∧ y = .int (k : Int) ∧ z.length = 1 ∧ k ≤ 1000 ∧ ∀ z', Q (.str z') H
theorem op_repS0 {X : Cx} : OpR X (binaryOp .Mult) rRepS0 := by
  intro pins s σ H x y v u Q I rx ry h
  obtain ⟨z, k, rfl, rfl, hz, h2, q⟩ := h
  obtain ⟨t, rfl⟩ := rx
  obtain ⟨t2, rfl⟩ := ry
  by_cases h0 : k = 0
  · subst h0
    exact PySem.P.mul_str_none (by decide) (by decide) ⟨.str _, _, I.tok _, ⟨_, rfl⟩, q _⟩
  have h1 : 1 ≤ k := by omega
  have hk : (k : Int) ≥ 1 := by omega
  have hd : (2 ^ 63 - 1) / (k : Int) ≥ 1 := by
    have : (1 : Int) ≤ (2 ^ 63 - 1) / (k : Int) := (Int.le_ediv_iff_mul_le (by omega)).mpr (by omega)
    exact this
  refine PySem.P.mul_str ?_ (fun _ _ => by rw [hz]; omega) (fun _ _ => ?_) ?_
  · rw [decide_eq_false (by omega), decide_eq_false (by omega)]; rfl
  · rw [hz]
    exact PyProof.Rows.short24 (by omega)
  · rw [if_neg (by omega)]
    split
    · exact ⟨.str z, _, I, ⟨_, rfl⟩, q z⟩
    · refine ⟨?_, ⟨.str _, _, I.tok _, ⟨_, rfl⟩, q _⟩⟩
      show ((List.replicate (k : Int).toNat z.cps).foldl (· ++ ·) #[]).size ≤ sizeLine
      rw [size_foldO]
      have : z.cps.size = 1 := hz
      rw [this, Int.toNat_natCast]
      exact size_le (by show 0 + k * 1 ≤ _; omega)
theorem rep_one (v : V) : ∀ k : Nat, (List.replicate k [v]).flatten = List.replicate k v
  | 0 => rfl
  | k + 1 => by rw [List.replicate_succ, List.flatten_cons, rep_one v k, List.replicate_succ]; rfl
/-! ### sorted edges are the graph's -/
theorem lex_uniq : ∀ {as bs : List Pr}, as.Perm bs → Lex as → Lex bs → as = bs
  | [], bs, h, _, _ => (List.nil_perm.mp h).symm
  | a :: as, [], h, _, _ => absurd h.length_eq (by simp)
  | a :: as, b :: bs, h, ha, hb => by
    have ha' := List.pairwise_cons.mp ha
    have hb' := List.pairwise_cons.mp hb
    have e : a = b := by
      have h1 : a ∈ b :: bs := h.mem_iff.mp (List.mem_cons_self ..)
      have h2 : b ∈ a :: as := h.mem_iff.mpr (List.mem_cons_self ..)
      rcases List.mem_cons.mp h1 with z | z
      · exact z
      rcases List.mem_cons.mp h2 with y | y
      · exact y.symm
      have k1 := hb'.1 a z
      have k2 := ha'.1 b y
      obtain ⟨a1, a2⟩ := a
      obtain ⟨b1, b2⟩ := b
      have k1 : b1 < a1 ∨ b1 = a1 ∧ b2 ≤ a2 := k1
      have k2 : a1 < b1 ∨ a1 = b1 ∧ a2 ≤ b2 := k2
      rw [Prod.mk.injEq]
      omega
    subst e
    rw [lex_uniq h.cons_inv ha'.2 hb'.2]
theorem new_sameO {H : Hp} {C x dx : Addr} (nx : H x = none) (ndx : H dx = none) : Same H (upd (upd H dx (.own x)) x (.ins C dx [])) := fun b o e => by
  rw [upd_ne (ne_of_none e nx), upd_ne (ne_of_none e ndx)]; exact e
/-- the due order as data -/
def dueD : Option (List Nat) → PyData
  | none => .none
  | some o => tupD o
def IsDue (H : Hp) (y : V) (o : Option (List Nat)) : Prop := match o with | none => y = .non | some o => ∃ l, y = .ref l ∧ H l = some (.tup (o.map nV))
theorem IsDue.same {H H' : Hp} {y : V} {o : Option (List Nat)} (h : IsDue H y o) (e : Same H H') : IsDue H' y o := by
  cases o with
  | none => exact h
  | some o =>
    obtain ⟨l, h1, h2⟩ := h
    exact ⟨l, h1, e _ _ h2⟩
theorem IsDue.dp {K : PySem.W.Frag} {H : Hp} {y : V} {o : Option (List Nat)} (h : IsDue H y o) : Dp K H y (dueD o) := by
  cases o with
  | none =>
    cases (show y = .non from h)
    exact .non
  | some o =>
    obtain ⟨l, rfl, h2⟩ := h
    refine .tup (SqT.of ?_) (dpAll_ints (natI o))
    rw [ints_nV]
    exact h2
theorem IsDue.not_non {H : Hp} {y : V} {o : Option (List Nat)} (h : IsDue H y o) : (!decide (y = .non)) = o.isSome := by
  cases o with
  | none =>
    cases (show y = .non from h)
    rfl
  | some o =>
    obtain ⟨l, rfl, h2⟩ := h
    rfl
theorem fit_due : ∀ (o : Option (List Nat)), (∀ r, o = some r → r.length ≤ 1000) → Fit 2 (dueD o)
  | none, _ => True.intro
  | some o, h => ⟨by rw [List.length_map]; unfold natI; rw [List.length_map]; have := h o rfl; omega, fit_ints⟩
/-- the counted ways, as the law sums them -/
theorem cnt_sum {n : Nat} {es : List Pr} (hb : ∀ e ∈ es, e.1 < n ∧ e.2 < n) : ((waysL es.length).map fun ws => if (ordA n (leads ws es)).isSome = true then (1 : Int) else 0).sum = cntA es := by
  unfold cntA sumW
  congr 1
  refine List.map_congr_left fun ws _ => ?_
  exact (rk_ord (lead_lt hb)).symm
section
variable {P : Program} {w : World} {K : PySem.W.Frag} {mg : Str → Option Value} {base : Heap} {C : Addr}
abbrev n_law_pool : List Str := ["script", "cell"]
abbrev p_law_pool : List Str := ["script"]
theorem sc_law_pool : FnScope n_law_pool p_law_pool (defScope s_law_pool) := ⟨rfl, rfl, rfl, by decide +kernel, rfl, by decide +kernel, by decide +kernel⟩
def spPool0 (K : PySem.W.Frag) : Sp := fun vs H Q _ => ∃ (a : Addr) (ns : List Int), vs = [.ref a] ∧ SqL K H a (ns.map V.int) ∧ ns.length ≤ 10000 ∧
  ∀ (H' : Hp) (p c : Addr) (ms : List Int), Same H H' → H p = none → H' p = some (.lst (poolL c 0 0 17)) → H' c = some (.lst (ms.map V.int)) → (∀ x ∈ ms, (0 : Int) ≤ x) → Q (.ref p) H'
theorem ok_pool0 (D : DefAt K mg "_law_pool" "_law_pool" s_law_pool) (B : Bt mg) : Has P w K mg base CX0 1 "_law_pool" p_law_pool (spPool0 K) := by
  refine has_of D sc_law_pool (fun _ _ _ _ _ _ us hl => match us, hl with | [_], _ => rfl) (fun vs H Q E h => ?_) (fun f cdv A outer s H vs Q E hr h => ?_)
  · obtain ⟨a, ns, rfl, _⟩ := h
    rfl
  · obtain ⟨a, ns, rfl, ha, hl, q⟩ := h
    refine ⟨_, (pss_one (ps_ret (pe_lst (pa_cons (pe_lc (own := [("cell", 1)]) (g := gName 1) (tt := tYes) rfl sc_law_pool.nd (piL (K := K) rfl (pv 0)) (blkOk_by (N := n_law_pool) (sc := defScope s_law_pool) (by decide +kernel)) (fun _ _ _ _ _ => (pg_name (i := 1) sc_law_pool.nd rfl (.inl rfl))) (fun _ _ _ _ _ => pts_nil) (fun _ _ _ _ _ => (pe_ifExp (pt_cmpR op_ge (pv 1) pe_int (nomark _)) (pe_op op_mul pe_int (pv 1)) (pe_op op_sub (pe_op op_mul (pe_un un_neg pe_int) (pv 1)) pe_int)))) (pa_cons pe_int (pa_cons pe_int (pa_cons pe_int pa_nil))))))), ?_⟩
    refine ⟨_, rfl, a, rfl, ⟨_, ha⟩, fun L nL => ?_⟩
    refine lc_list (K := K) (a := a) (xs := ns.map V.int) (fun i H2 => Same H H2 ∧ ∃ ms : List Int, ms.length = i ∧ H2 L = some (.lst (ms.map V.int)) ∧ ∀ x ∈ ms, (0 : Int) ≤ x) ⟨same_upd nL, [], rfl, upd_same, fun _ h => nomatch h⟩ (fun i H2 _ p => p.1.seq ha) ?_ ?_
    · rintro i x H2 hx ⟨sm, ms, lms, hL, h0⟩
      have hi : i < ns.length := by have := (List.getElem?_eq_some_iff.mp hx).1; rwa [List.length_map] at this
      rw [getMap hi] at hx
      obtain rfl := Option.some.inj hx
      have fin : ∀ y : Int, 0 ≤ y → ∃ acc, H2 L = some (.lst acc) ∧ acc.length < sizeLine ∧ (Same H (upd H2 L (.lst (acc ++ [.int y]))) ∧ ∃ ms : List Int, ms.length = i + 1 ∧ (upd H2 L (.lst (acc ++ [.int y]))) L = some (.lst (ms.map V.int)) ∧ ∀ x ∈ ms, (0 : Int) ≤ x) := fun y hy =>
        ⟨_, hL, size_lt (by rw [List.length_map]; omega), same_mut sm nL, ms ++ [y], by rw [List.length_append, lms]; rfl, by rw [upd_same, List.map_append]; rfl, fun x hx => by
          rcases List.mem_append.mp hx with hx | hx
          · exact h0 x hx
          · rw [List.mem_singleton.mp hx]; exact hy⟩
      refine ⟨rfl, yes_ ?_⟩
      refine ⟨_, rfl, _, _, rfl, rfl, _, rfl, ifD (fun h => ?_) (fun h => ?_)⟩
      · exact ⟨_, rfl, _, _, rfl, rfl, .inl ⟨by decide, by decide⟩, fin _ (by omega)⟩
      · refine ⟨_, rfl, _, rfl, _, _, rfl, rfl, .inl ⟨by decide, by decide⟩, _, _, rfl, rfl, fin _ ?_⟩
        show (0 : Int) ≤ -2 * ns[i] - 1
        omega
    · rintro H2 ⟨sm, ms, lms, hL, h0⟩
      refine ⟨by show 4 ≤ sizeLine; decide, fun p np => ?_⟩
      exact q _ p L ms (sm.trans (same_upd np)) (sm.free np) upd_same ((same_upd np) _ _ hL) h0
def spPool (K : PySem.W.Frag) : Sp := fun vs H Q _ => ∃ (a : Addr) (ns : List Int), vs = [.ref a] ∧ SqL K H a (ns.map V.int) ∧ ns.length ≤ 10000 ∧ ∀ (H' : Hp) (p : Addr), Same H H' → PoolAt H' p → Q (.ref p) H'
theorem ok_pool (D : DefAt K mg "_law_pool" "_law_pool" s_law_pool) (B : Bt mg) : Has P w K mg base CX0 1 "_law_pool" p_law_pool (spPool K) := by
  obtain ⟨f, fd, F, m, kp, b⟩ := ok_pool0 (P := P) (w := w) (base := base) D B
  refine ⟨f, fd, ghost_call F (fun vs H Q E h => ?_) (fun vs H Q E hp ok h => ?_), m, kp, b⟩
  · obtain ⟨a, ns, rfl, _⟩ := h
    rfl
  · obtain ⟨a, ns, rfl, ha, hl, q⟩ := h
    refine ⟨H, fun v H2 => ∃ (p c : Addr) (ms : List Int), v = .ref p ∧ Same H H2 ∧ H p = none ∧ H2 p = some (.lst (poolL c 0 0 17)) ∧ H2 c = some (.lst (ms.map V.int)) ∧ ∀ x ∈ ms, (0 : Int) ≤ x, fun _ _ _ => False,
      ⟨fun _ e => e, fun _ _ e => e, fun _ _ _ e => e, fun _ _ e => e⟩, ok, ⟨a, ns, rfl, ha, hl, fun H' p c ms a1 a2 a3 a4 a5 => ⟨p, c, ms, rfl, a1, a2, a3, a4, a5⟩⟩, ?_⟩
    rintro v H2 hp2 ok2 ⟨p, c, ms, rfl, sm, np, h1, h2, h3⟩
    refine ⟨_, Gst.upd h1 (fun xs => lst_tup) (fun o u z => by cases z) (fun ps z => by cases z), pool_close ok2 h1 (by decide) (by decide) (by decide) (by decide), ?_⟩
    have ncp : c ≠ p := fun z => by
      rw [z, h1] at h2
      injection h2 with h2
      injection h2 with h2
      cases ms with
      | nil => cases h2
      | cons m ms => injection h2 with h2 _; cases h2
    exact q _ p (same_mut sm np) ⟨c, ms, upd_same, by rw [upd_ne ncp]; exact h2, h3⟩
end
end G3

set_option Elab.async false
set_option linter.all false
set_option maxRecDepth 100000
set_option maxHeartbeats 8000000
namespace G3
open PySem PySem.Spec PyProof.Rows L2
abbrev S18 (a p : Addr) (x2 x3 x4 x5 x6 x7 x8 x9 x10 x11 x12 x13 x14 x15 x16 x17 x18 : Option V) : L2.St := [some (.ref a), some (.ref p), x2, x3, x4, x5, x6, x7, x8, x9, x10, x11, x12, x13, x14, x15, x16, x17, x18, none, none, none, none, none]
def AnyS (a p : Addr) (σ : L2.St) : Prop := ∃ x2 x3 x4 x5 x6 x7 x8 x9 x10 x11 x12 x13 x14 x15 x16 x17 x18, σ = S18 a p x2 x3 x4 x5 x6 x7 x8 x9 x10 x11 x12 x13 x14 x15 x16 x17 x18
def AnyT (a p : Addr) (x2 : Option V) (n : Nat) (l g : Addr) (m : Nat) (σ : L2.St) : Prop := ∃ x7 x8 x9 x10 x11 x12 x13 x14 x15 x16 x17 x18, σ = S18 a p x2 (some (nV n)) (some (.ref l)) (some (.ref g)) (some (nV m)) x7 x8 x9 x10 x11 x12 x13 x14 x15 x16 x17 x18
def flatO : V → PyData
  | .int i => .int i
  | _ => .none
theorem dp_flatO {K : PySem.W.Frag} {H : Hp} : ∀ {vs : List V}, (∀ v ∈ vs, v = .non ∨ ∃ i, v = .int i) → DpAll K H vs (vs.map flatO)
  | [], _ => .nil
  | v :: vs, h => by
    rw [List.map_cons]
    refine .cons ?_ (dp_flatO fun u hu => h u (List.mem_cons_of_mem _ hu))
    rcases h v (List.mem_cons_self ..) with rfl | ⟨i, rfl⟩
    · exact .non
    · exact .int i
theorem dp_ones {K : PySem.W.Frag} {H : Hp} : ∀ k : Nat, DpAll K H (List.replicate k (V.int 1)) (List.replicate k (PyData.int 1))
  | 0 => .nil
  | k + 1 => by rw [List.replicate_succ, List.replicate_succ]; exact .cons (.int 1) (dp_ones k)
section
variable {P : Program} {w : World} {K : PySem.W.Frag} {mg : Str → Option Value} {base : Heap} {C CB : Addr}
abbrev n_law : List Str := ["script", "pool", "turn", "n", "edges", "graph", "many", "step", "ways", "at", "leads", "due", "handed", "reached", "told", "fit", "word", "row", "number", "edge", "one", "other", "k", "place"]
abbrev p_law : List Str := ["script"]
theorem sc_law : FnScope n_law p_law (defScope s_law) := ⟨rfl, rfl, rfl, by decide +kernel, rfl, by decide +kernel, by decide +kernel⟩
def spLaw (K : PySem.W.Frag) : Sp := fun vs H Q _ => ∃ (a : Addr) (ns : List Int), vs = [.ref a] ∧ SqL K H a (ns.map V.int) ∧ ns.length ≤ 10000 ∧ ∀ H', Q (.bl true) H'
theorem ok_law (D : DefAt K mg "law" "law" s_law) (B : Bt mg) (h_law_pool : Has P w K mg base CX0 1 "_law_pool" p_law_pool (spPool K)) (h_law_take : Has P w K mg base CX0 2 "_law_take" p_law_take spTake) (h_law_pick : Has P w K mg base CX0 3 "_law_pick" p_law_pick (spPick K))
    (h_law_graph : Has P w K mg base CX0 4 "_law_graph" p_law_graph spGraph) (mk_Graph : HasMk P w K mg base CX0 3 "Graph" C p_Graph___init__ (spGInit C)) (h_law_away : Has P w K mg base CX0 4 "_law_away" p_law_away spAway)
    (h_law_leads : Has P w K mg base CX0 1 "_law_leads" p_law_leads spLeads) (h_law_first : Has P w K mg base CX0 1 "_law_first" p_law_first spFirst) (h_law_given : Has P w K mg base CX0 3 "_law_given" p_law_given (spGiven K))
    (h_is_acyclic : Has P w K mg base CX0 4 "is_acyclic" p_is_acyclic (fun vs H Q _ => spAcyc K C CB vs H Q (fun _ _ _ => False))) (h_sources : Has P w K mg base CX0 3 "sources" p_sources (fun vs H Q _ => spSrc K C CB vs H Q (fun _ _ _ => False)))
    (h_ordered : Has P w K mg base CX0 3 "ordered" p_ordered (fun vs H Q _ => spOrd K C CB vs H Q (fun _ _ _ => False))) (h_law_same : Has P w K mg base CX0 4 "_law_same" p_law_same (spSame K 3))
    (h_law_orders : Has P w K mg base CX0 7 "_law_orders" p_law_orders (spOrders 6)) (h_law_all_ways : Has P w K mg base CX0 1 "_law_all_ways" p_law_all_ways (spWays K)) (h_law_count : Has P w K mg base CX0 11 "_law_count" p_law_count (spCount 10))
    (h_law_refused : Has P w K mg base CX0 5 "_law_refused" p_law_refused (spRefO K C)) : HasG P w K mg base CX0 12 "law" p_law (spLaw K) := by
  refine hasG_of D sc_law (fun _ _ _ _ _ _ us hl => match us, hl with | [_], _ => rfl) (fun vs H Q E h => ?_) (fun f cdv A outer s H vs Q E hgd hr h => ?_)
  · obtain ⟨a, ns, rfl, _⟩ := h
    rfl
  · obtain ⟨a, ns, rfl, ha, hl, q⟩ := h
    refine ⟨_, (Evl.pss_cut (ps_set (i := 1) sc_law.nd rfl (.inr rfl) (pe_h h_law_pool hr pass0 (pa_cons (pv 0) pa_nil)))
  (Evl.pss_cut (ps_for PassesOwn.never rfl (pi_range1 rfl B.range (pa_cons pe_int pa_nil)) (pg_name (i := 2) sc_law.nd rfl (.inl rfl)) (Evl.pss_cut (ps_asg (pe_h h_law_graph hr pass0 (pa_cons (pv 1) (pa_cons (pe_h h_law_pick hr pass0 (pa_cons (pv 1) (pa_cons (pe_lst (pa_cons pe_int (pa_cons pe_int (pa_cons pe_int (pa_cons pe_int pa_nil))))) pa_nil))) (pa_cons (pe_h h_law_pick hr pass0 (pa_cons (pv 1) (pa_cons (pe_lst (pa_cons pe_int (pa_cons pe_int (pa_cons pe_int pa_nil)))) pa_nil))) pa_nil)))) (pgT (K := K) (n := 2) rfl rfl (pgs_cons (pg_name (i := 3) sc_law.nd rfl (.inl rfl)) (pgs_cons (pg_name (i := 4) sc_law.nd rfl (.inl rfl)) pgs_nil))))
  (pss_cons (ps_set (i := 5) sc_law.nd rfl (.inr rfl) (pe_makeH mk_Graph hr pass0 (pa_cons (pv 3) (pa_cons (pv 4) pa_nil))))
  (pss_cons (ps_set (i := 4) sc_law.nd rfl (.inl rfl) (pe_callB (sortPK (K := K) rfl) rfl B.sorted (by decide +kernel) (pa_cons (pv 4) pa_nil)))
  (pss_cons (ps_set (i := 6) sc_law.nd rfl (.inl rfl) (pe_callB (lenK (K := K) rfl) rfl B.len PySem.boot_len (pa_cons (pv 4) pa_nil)))
  (Evl.pss_cut (ps_for PassesOwn.never rfl (pi_range1 rfl B.range (pa_cons pe_int pa_nil)) (pg_name (i := 7) sc_law.nd rfl (.inl rfl)) (pss_cons (ps_setLc (i := 8) (own := [("edge", 19)]) (g := gName 19) (tt := tYes) rfl sc_law.nd rfl rfl (sw_true rfl rfl rfl (by decide +kernel)) (piL (K := K) rfl (pv 4)) (blkOk_by (N := n_law) (sc := defScope s_law) (by decide +kernel)) (fun _ _ _ _ _ => (pg_name (i := 19) sc_law.nd rfl (.inl rfl))) (fun _ _ _ _ _ => pts_nil) (fun _ _ _ _ _ => (pe_op op_sub pe_int (pe_op op_mul pe_int (pe_h h_law_take hr pass0 (pa_cons (pv 1) (pa_cons pe_int pa_nil)))))))
  (Evl.pss_cut (ps_if (pt_cmpR op_gt (pv 7) pe_int (nomark _)) (pss_one (ps_set (i := 8) sc_law.nd rfl (.inl rfl) (pe_h h_law_away hr pass0 (pa_cons (pv 1) (pa_cons (pv 3) (pa_cons (pv 4) pa_nil)))))) pss_nil)
  (Evl.pss_cut (ps_if (PW.pt (pw_and (pt_cmpR op_eq (pv 7) pe_int (nomark _)) (pw_and1 (pt_cmpR op_gt (pv 6) pe_int (nomark _))))) (pss_cons (ps_set (i := 9) sc_law.nd rfl (.inl rfl) (pe_h h_law_take hr pass0 (pa_cons (pv 1) (pa_cons (pv 6) pa_nil))))
  (pss_one (ps_asg (pe_un un_neg (pe_ix (ixL (K := K) rfl) (pv 8) (pv 9) (fun _ _ => rfl))) (pg_sub (pv 8) (pv 9) set_list)))) pss_nil)
  (pss_cons (ps_set (i := 10) sc_law.nd rfl (.inr rfl) (pe_h h_law_leads hr pass0 (pa_cons (pv 4) (pa_cons (pv 8) pa_nil))))
  (pss_cons (ps_set (i := 11) sc_law.nd rfl (.inl rfl) (pe_h h_law_first hr pass0 (pa_cons (pv 3) (pa_cons (pv 10) pa_nil))))
  (pss_cons (ps_set (i := 12) sc_law.nd rfl (.inl rfl) (pe_h h_law_given hr pass0 (pa_cons (pv 1) (pa_cons (pv 8) pa_nil))))
  (pss_cons (ps_set (i := 13) sc_law.nd rfl (.inr rfl) (pe_lc (own := [("one", 20), ("other", 21)]) (g := _) (tt := tYes) rfl sc_law.nd (piL (K := K) rfl (pv 10)) (blkOk_by (N := n_law) (sc := defScope s_law) (by decide +kernel)) (fun _ _ _ _ _ => (pgT (K := K) (n := 2) rfl rfl (pgs_cons (pg_name (i := 20) sc_law.nd rfl (.inl rfl)) (pgs_cons (pg_name (i := 21) sc_law.nd rfl (.inl rfl)) pgs_nil)))) (fun _ _ _ _ _ => pts_nil) (fun _ _ _ _ _ => (pv 21))))
  (pss_cons (ps_set (i := 14) sc_law.nd rfl (.inl rfl) (pe_tup (pa_cons (pe_h h_is_acyclic hr pass0 (pa_cons (pv 5) (pa_cons (pv 12) pa_nil))) (pa_cons (pe_h h_sources hr pass0 (pa_cons (pv 5) (pa_cons (pv 12) pa_nil))) (pa_cons (pe_h h_ordered hr pass0 (pa_cons (pv 5) (pa_cons (pv 12) pa_nil))) pa_nil)))))
  (Evl.pss_cut (ps_if (pt_not (pt_val (pe_h h_law_same hr pass0 (pa_cons (pv 14) (pa_cons (pe_tup (pa_cons (pe_cmpR op_notN (pv 11) pe_non (nomark _)) (pa_cons (pe_callTy (tupK (K := K) rfl) rfl B.tuple (by decide +kernel) (pa_cons (pe_lc (own := [("place", 23)]) (g := gName 23) (tt := _) rfl sc_law.nd (pi_range1 rfl B.range (pa_cons (pv 3) pa_nil)) (blkOk_by (N := n_law) (sc := defScope s_law) (by decide +kernel)) (fun _ _ _ _ _ => (pg_name (i := 23) sc_law.nd rfl (.inl rfl))) (fun _ _ _ _ _ => (pts_one (pt_cmpR (ninK (K := K) rfl) (pv 23) (pv 13) (by rfl)))) (fun _ _ _ _ _ => (pv 23))) pa_nil)) (pa_cons (pv 11) pa_nil)))) pa_nil))))) (pss_one (ps_ret pe_bl)) pss_nil)
  (Evl.pss_cut (ps_if (PW.pt (pw_and (pt_cmpR op_notN (pv 11) pe_non (nomark _)) (pw_and1 (pt_not (pt_truth (pe_ix (ixT (K := K) rfl) (pv 14) pe_int (fun _ _ => rfl)) (by intro _; rfl)))))) (pss_one (ps_ret pe_bl)) pss_nil)
  (pss_one (ps_if (pt_cmpR op_lt (pv 3) pe_int (nomark _)) (pss_cons (ps_setLc (i := 15) (own := [("row", 17)]) (g := gName 17) (tt := _) rfl sc_law.nd rfl rfl (sw_true rfl rfl rfl (by decide +kernel)) (piL (K := K) rfl (pe_h h_law_orders hr pass0 (pa_cons (pe_listRg rfl rfl B.list (prg_1 rfl B.range (pv 3))) pa_nil))) (blkOk_by (N := n_law) (sc := defScope s_law) (by decide +kernel)) (fun _ _ _ _ _ => (pg_name (i := 17) sc_law.nd rfl (.inr rfl))) (fun _ _ _ _ _ => (pts_one (pt_val (pe_callB (allK (K := K) rfl rfl) rfl B.all (by decide +kernel) (pa_cons (pe_lc (own := [("one", 20), ("other", 21)]) (g := _) (tt := tYes) rfl sc_law.nd (piL (K := K) rfl (pv 10)) (blkOk_by (N := n_law) (sc := _) (by rfl)) (fun _ _ _ _ _ => (pgT (K := K) (n := 2) rfl rfl (pgs_cons (pg_name (i := 20) sc_law.nd rfl (.inl rfl)) (pgs_cons (pg_name (i := 21) sc_law.nd rfl (.inl rfl)) pgs_nil)))) (fun _ _ _ _ _ => pts_nil) (fun _ _ _ _ _ => (pe_cmpR op_lt (pe_bmT PySem.F.slot_tuple_index PySem.F.type_tuple_index (mt_indexT K rfl) (pv 17) (pa_cons (pv 20) pa_nil)) (pe_bmT PySem.F.slot_tuple_index PySem.F.type_tuple_index (mt_indexT K rfl) (pv 17) (pa_cons (pv 21) pa_nil)) (nomark _)))) pa_nil))))) (fun _ _ _ _ _ => (pv 17)))
  (pss_one (ps_if (pt_not (pt_val (pe_h h_law_same hr pass0 (pa_cons (pv 11) (pa_cons (pe_ifExp (pt_truth (pv 15) (by intro _; rfl)) (pe_callB (call_minDL (K := K) rfl rfl hr.units) rfl B.min (by decide +kernel) (pa_cons (pv 15) pa_nil)) pe_non) pa_nil))))) (pss_one (ps_ret pe_bl)) pss_nil))) pss_nil)))))))))))))
  (Evl.pss_cut (ps_if (pt_cmpR op_lt (pv 6) pe_int (nomark _)) (pss_one (ps_if (pt_cmpR op_ne (pe_callB (sumK (K := K) rfl rfl) rfl B.sum (by decide +kernel) (pa_cons (pe_lc (own := [("ways", 8)]) (g := gName 8) (tt := tYes) rfl sc_law.nd (piL (K := K) rfl (pe_h h_law_all_ways hr pass0 (pa_cons (pv 6) pa_nil))) (blkOk_by (N := n_law) (sc := defScope s_law) (by decide +kernel)) (fun _ _ _ _ _ => (pg_name (i := 8) sc_law.nd rfl (.inl rfl))) (fun _ _ _ _ _ => pts_nil) (fun _ _ _ _ _ => (pe_callTy call_int1 rfl B.int (by decide +kernel) (pa_cons (pe_h h_is_acyclic hr pass0 (pa_cons (pv 5) (pa_cons (pv 8) pa_nil))) pa_nil)))) pa_nil)) (pe_h h_law_count hr pass0 (pa_cons (pv 3) (pa_cons (pv 4) pa_nil))) (nomark _)) (pss_one (ps_ret pe_bl)) pss_nil)) pss_nil)
  (Evl.pss_cut (ps_set (i := 16) sc_law.nd rfl (.inl rfl) (pe_h h_law_pick hr pass0 (pa_cons (pv 1) (pa_cons (pe_lst (pa_cons pe_str (pa_cons pe_str (pa_cons pe_str pa_nil)))) pa_nil))))
  (Evl.pss_cut (ps_par (i := 17) (j := 18) rfl sc_law.nd rfl rfl (by decide) rfl rfl (pa_cons (pe_h h_law_pick hr pass0 (pa_cons (pv 1) (pa_cons (pe_lst (pa_cons pe_non (pa_cons pe_int (pa_cons (pe_op op_repS0 pe_str (pv 6)) (pa_cons (pe_dnewK) (pa_cons (pe_op op_rep (pe_lst (pa_cons pe_int pa_nil)) (pe_op op_add (pv 6) pe_int)) (pa_cons pe_bl pa_nil))))))) pa_nil))) (pa_cons pe_non pa_nil)) rfl)
  (Evl.pss_cut (ps_if (PW.pt (pw_and (pt_cmpR op_gt (pv 6) pe_int (nomark _)) (pw_and1 (pt_cmpR op_eq (pe_h h_law_take hr pass0 (pa_cons (pv 1) (pa_cons pe_int pa_nil))) pe_int (nomark _))))) (pss_cons (ps_set (i := 18) sc_law.nd rfl (.inl rfl) (pe_h h_law_take hr pass0 (pa_cons (pv 1) (pa_cons (pv 6) pa_nil))))
  (pss_cons (ps_set (i := 17) sc_law.nd rfl (.inl rfl) (pe_op op_cat (pe_op op_cat (pe_op op_rep (pe_lst (pa_cons pe_int pa_nil)) (pv 18)) (pe_lst (pa_cons (pe_h h_law_pick hr pass0 (pa_cons (pv 1) (pa_cons (pe_lst (pa_cons pe_int (pa_cons pe_int (pa_cons pe_bl (pa_cons pe_non (pa_cons pe_str (pa_cons (pe_tup (pa_cons pe_int pa_nil)) pa_nil))))))) pa_nil))) pa_nil))) (pe_lc (own := [("k", 22)]) (g := gName 22) (tt := tYes) rfl sc_law.nd (pi_range2 rfl B.range (pa_cons (pe_op op_add (pv 18) pe_int) (pa_cons (pv 6) pa_nil))) (blkOk_by (N := n_law) (sc := defScope s_law) (by decide +kernel)) (fun _ _ _ _ _ => (pg_name (i := 22) sc_law.nd rfl (.inl rfl))) (fun _ _ _ _ _ => pts_nil) (fun _ _ _ _ _ => (pe_h h_law_pick hr pass0 (pa_cons (pv 1) (pa_cons (pe_lst (pa_cons pe_int (pa_cons (pe_un un_neg pe_int) (pa_cons pe_non pa_nil)))) pa_nil)))))))
  (pss_one (ps_set (i := 17) sc_law.nd rfl (.inl rfl) (pe_h h_law_given hr pass0 (pa_cons (pv 1) (pa_cons (pv 17) pa_nil))))))) pss_nil)
  (pss_one (ps_if (pt_not (pt_val (pe_h h_law_same hr pass0 (pa_cons (pe_h h_law_refused hr pass0 (pa_cons (pv 16) (pa_cons (pv 5) (pa_cons (pv 17) pa_nil)))) (pa_cons (pe_tup (pa_cons pe_str (pa_cons (pv 18) (pa_cons pe_bl pa_nil)))) pa_nil))))) (pss_one (ps_ret pe_bl)) pss_nil))))))))))))
  (pss_one (ps_ret pe_bl)))), ?_⟩
    refine ⟨fun σ H1 => ∃ p, σ = S18 a p none none none none none none none none none none none none none none none none none ∧ PoolAt H1 p, ?_, ?_⟩
    · exact ⟨_, rfl, a, ns, rfl, ha, hl, fun H' p _ hp => ⟨p, rfl, hp⟩⟩
    rintro σ H1 ⟨p, rfl, hp1⟩
    refine ⟨fun σ H2 => AnyS a p σ ∧ PoolAt H2 p, ?_, ?_⟩
    · refine ⟨3, rfl, by decide, by decide, ?_⟩
      refine for_range (lo := 0) (n := (3 : Int).toNat) (fun i σ H2 => AnyS a p σ ∧ PoolAt H2 p) ⟨⟨none, none, none, none, none, none, none, none, none, none, none, none, none, none, none, none, none, rfl⟩, hp1⟩ ?_ (fun σ H' h => h)
      rintro i σ H2 hi ⟨⟨x2, x3, x4, x5, x6, x7, x8, x9, x10, x11, x12, x13, x14, x15, x16, x17, x18, rfl⟩, hp2⟩
      -- the graph
      refine ⟨fun σ H3 => ∃ (l : Addr) (n : Nat) (es : List Pr), σ = S18 a p (some (.int (0 + (i : Nat)))) (some (nV n)) (some (.ref l)) x5 x6 x7 x8 x9 x10 x11 x12 x13 x14 x15 x16 x17 x18 ∧ PoolAt H3 p ∧ PLst H3 l es ∧ Good n es ∧ 1 ≤ n ∧ n ≤ 64 ∧ es.length ≤ 400, ?_, ?_⟩
      · refine ⟨_, rfl, _, rfl, by show 4 ≤ sizeLine; decide, fun L1 n1 => ?_⟩
        have s1 : Same H2 (upd H2 L1 (.lst [.int 3, .int 6, .int 12, .int 24])) := same_upd n1
        refine ⟨p, L1, _, rfl, hp2.same s1, SqL.of upd_same, by show 0 < 4; decide, by show 4 < 1000000000; decide, fun i1 v1 hv1 => ?_⟩
        obtain ⟨most, rfl, m1, m2⟩ : ∃ m : Int, v1 = .int m ∧ 1 ≤ m ∧ m ≤ 64 := by
          have hm := List.mem_of_getElem? hv1
          simp only [List.mem_cons, List.not_mem_nil, or_false] at hm
          rcases hm with rfl | rfl | rfl | rfl
          · exact ⟨_, rfl, by decide, by decide⟩
          · exact ⟨_, rfl, by decide, by decide⟩
          · exact ⟨_, rfl, by decide, by decide⟩
          · exact ⟨_, rfl, by decide, by decide⟩
        generalize upd H2 L1 (.lst [.int 3, .int 6, .int 12, .int 24]) = H3 at s1 ⊢
        refine ⟨_, rfl, by show 3 ≤ sizeLine; decide, fun L2 n2 => ?_⟩
        have s2 : Same H3 (upd H3 L2 (.lst [.int 1, .int 4, .int 12])) := same_upd n2
        refine ⟨p, L2, _, rfl, hp2.same (s1.trans s2), SqL.of upd_same, by show 0 < 3; decide, by show 3 < 1000000000; decide, fun i2 v2 hv2 => ?_⟩
        obtain ⟨gen, rfl, g1, g2⟩ : ∃ m : Int, v2 = .int m ∧ 0 ≤ m ∧ m ≤ 337 := by
          have hm := List.mem_of_getElem? hv2
          simp only [List.mem_cons, List.not_mem_nil, or_false] at hm
          rcases hm with rfl | rfl | rfl
          · exact ⟨_, rfl, by decide, by decide⟩
          · exact ⟨_, rfl, by decide, by decide⟩
          · exact ⟨_, rfl, by decide, by decide⟩
        generalize upd H3 L2 (.lst [.int 1, .int 4, .int 12]) = H4 at s2 ⊢
        have hp4 := hp2.same (s1.trans s2)
        refine ⟨p, most, gen, rfl, hp4, m1, m2, g1, g2, fun H5 t l n es s5 ht _ hpl hn1 hn2 good hel => ?_⟩
        exact ⟨t, _, rfl, SqT.of ht, rfl, _, _, rfl, _, _, rfl, rfl, l, n, es, rfl, hp4.same s5, hpl, good, hn1, by omega, by omega⟩
      rintro σ H3 ⟨l, n, es, rfl, hp3, hpl, good, hn1, hn, he⟩
      -- graph = Graph(n, edges)
      refine ⟨_, rfl, _, rfl, ?_⟩
      intro g dx0 nx0 ndx0 ne0
      obtain ⟨ws, hw1, hw2⟩ := id hpl
      have s0 := new_sameO (C := C) nx0 ndx0
      refine ⟨g, dx0, l, n, ws, es, rfl, upd_same, s0 _ _ hw1, hw2.same s0, good, hn1, hn, he, fun H4 es1 kd bt ga pm hx nk hk => ⟨rfl, ?_⟩⟩
      have s4 : Same H3 H4 := fun b o e => bt _ _ (ne_of_none e nx0) (s0 _ _ e)
      have gk4 : Gk H4 C g n es1 := ⟨⟨kd, ga⟩, good.perm pm, hn1, hn, by rw [pm.length_eq]; exact he, hx⟩
      have hws4 := hw2.same s4
      -- edges = sorted(edges)
      refine ⟨_, rfl, l, ws, prI H4, rfl, SqL.of (s4 _ _ hw1), fun v hv => ?_, fun ys l2 hs hb np => ?_⟩
      · obtain ⟨t, a, b, e1, e2⟩ := hws4.mem v hv
        subst e1
        exact ⟨t, rfl, by rw [prI_of e2]; exact e2⟩
      have hys : Prs H4 ys (ys.map (prN H4)) := prs_of fun v hv => by
        obtain ⟨t, a, b, e1, e2⟩ := hws4.mem v (hb.perm.mem_iff.mp hv)
        exact ⟨t, a, b, e1, e2⟩
      have hperm : (ys.map (prN H4)).Perm es := by
        rw [hws4.eq]; exact hb.perm.map _
      have hlex : Lex (ys.map (prN H4)) := by
        refine List.pairwise_map.mpr (List.Pairwise.imp_of_mem (fun {a b} ha hb' h => ?_) hs)
        have h := SrtO.lexB_no.mp h
        obtain ⟨t, a1, a2, rfl, e2⟩ := hws4.mem a (hb.perm.mem_iff.mp ha)
        obtain ⟨t', b1, b2, rfl, e2'⟩ := hws4.mem b (hb.perm.mem_iff.mp hb')
        rw [prI_of e2, prI_of e2'] at h
        rw [prN_of e2, prN_of e2']
        have h : ¬ ((b1 : Int) < (a1 : Int) ∨ (b1 : Int) = a1 ∧ (b2 : Int) < a2) := h
        show a1 < b1 ∨ a1 = b1 ∧ a2 ≤ b2
        omega
      have e1 : ys.map (prN H4) = es1 := lex_uniq (hperm.trans pm.symm) hlex hx
      rw [e1] at hys
      have s5 : Same H4 (upd H4 l2 (.lst ys)) := same_upd np
      have hy1 : (upd H4 l2 (.lst ys)) l2 = some (.lst ys) := upd_same
      have hy2 := hys.same s5
      have hp5 := hp3.same (s4.trans s5)
      have gk5 := gk4.same s5
      have ly := hys.len
      have ltall : ∀ e ∈ es1, e.1 < n ∧ e.2 < n := fun e he => by
        have := gk4.2.1.1 e he
        omega
      have he1 : es1.length ≤ 400 := gk4.2.2.2.2.1
      clear hpl good he s0 s4 gk4 hws4 hw1 hw2 hs hb hperm hlex e1 hys pm hx bt ga hk nx0 ndx0 ne0 hp3 hp2 hp1
      generalize upd H4 l2 (.lst ys) = H5 at s5 hy1 hy2 hp5 gk5 ⊢
      refine ⟨_, rfl, _, es1.length, rfl, .inl ⟨_, SqL.of hy1, ly.symm⟩, ?_⟩
      -- the steps
      refine ⟨fun σ H6 => AnyT a p (some (.int (0 + (i : Nat)))) n l2 g es1.length σ ∧ Same H5 H6, ?_, ?_⟩
      · refine ⟨3, rfl, by decide, by decide, ?_⟩
        refine for_range (lo := 0) (n := (3 : Int).toNat) (fun j σ H6 => AnyT a p (some (.int (0 + (i : Nat)))) n l2 g es1.length σ ∧ Same H5 H6) ⟨⟨x7, x8, x9, x10, x11, x12, x13, x14, x15, x16, x17, x18, rfl⟩, Same.refl _⟩ ?_ (fun σ H' h => h)
        rintro j σ H6 hj ⟨⟨y7, y8, y9, y10, y11, y12, y13, y14, y15, y16, y17, y18, rfl⟩, s56⟩
        have hp6 := hp5.same s56
        have gk6 := gk5.same s56
        have hu1 := s56 _ _ hy1
        have hu2 := hy2.same s56
        -- ways
        refine ⟨_, rfl, l2, rfl, ⟨_, SqL.of hu1⟩, fun W nW => ?_⟩
        refine lc_list (K := K) (a := l2) (xs := ys) (fun k H7 => Same H6 H7 ∧ ∃ ws : List Int, H7 W = some (.lst (ws.map V.int)) ∧ ws.length = k ∧ ∀ z ∈ ws, z = 1 ∨ z = -1) ⟨same_upd nW, [], upd_same, rfl, fun z h => nomatch h⟩ (fun k H7 _ p => SqL.of (p.1 _ _ hu1)) ?_ ?_
        · rintro k x H7 hx ⟨sm, ws, hW, lw, hws⟩
          have hk : k < ys.length := (List.getElem?_eq_some_iff.mp hx).1
          refine ⟨rfl, yes_ ?_⟩
          refine ⟨_, rfl, p, 2, rfl, hp6.same sm, by decide, by decide, fun r r0 r1 => ?_⟩
          refine ⟨_, _, rfl, rfl, .inl ⟨by decide, by decide⟩, _, _, rfl, rfl, ?_⟩
          refine ⟨_, hW, size_lt (by rw [List.length_map]; omega), same_mut sm nW, ws ++ [1 - 2 * r], by rw [upd_same, List.map_append]; rfl, by rw [List.length_append, lw]; rfl, fun z hz => ?_⟩
          rcases List.mem_append.mp hz with hz | hz
          · exact hws z hz
          · rw [List.mem_singleton.mp hz]
            have : r = 0 ∨ r = 1 := by omega
            rcases this with rfl | rfl
            · exact .inl rfl
            · exact .inr rfl
        rintro H7 ⟨s67, ws, hW, lw, hws⟩
        rw [ly] at lw
        -- if step > 0
        refine ⟨fun σ H8 => ∃ (W : Addr) (ws : List Int), σ = S18 a p (some (.int (0 + (i : Nat)))) (some (nV n)) (some (.ref l2)) (some (.ref g)) (some (nV es1.length)) (some (.int (0 + (j : Nat)))) (some (.ref W)) y9 y10 y11 y12 y13 y14 y15 y16 y17 y18 ∧ Same H6 H8 ∧ H6 W = none ∧ H8 W = some (.lst (ws.map V.int)) ∧ ws.length = es1.length ∧ ∀ z ∈ ws, z = 1 ∨ z = -1, ?_, ?_⟩
        · refine ⟨_, rfl, _, _, rfl, rfl, _, rfl, ifD (fun _ => ?_) (fun _ => ?_)⟩
          · refine ⟨_, rfl, _, rfl, _, rfl, p, l2, n, es1, rfl, hp6.same s67, ⟨ys, s67 _ _ hu1, hu2.same s67⟩, ltall, hn1, by omega, by omega, fun H8 W2 ws2 s78 nW2 hW2 lw2 hws2 => ?_⟩
            exact ⟨W2, ws2, rfl, s67.trans s78, s67.free nW2, hW2, lw2, hws2⟩
          · exact ⟨W, ws, rfl, s67, nW, hW, lw, hws⟩
        clear s67 hW lw hws nW
        clear W ws
        rintro σ H8 ⟨W, ws, rfl, s68, nW, hW, lw, hws⟩
        -- if step == 2 and many > 0
        refine ⟨fun σ H9 => ∃ (z9 : Option V) (ws : List Int), σ = S18 a p (some (.int (0 + (i : Nat)))) (some (nV n)) (some (.ref l2)) (some (.ref g)) (some (nV es1.length)) (some (.int (0 + (j : Nat)))) (some (.ref W)) z9 y10 y11 y12 y13 y14 y15 y16 y17 y18 ∧ Same H6 H9 ∧ H9 W = some (.lst (ws.map V.int)) ∧ ws.length = es1.length ∧ ∀ z ∈ ws, z = 1 ∨ z = -1, ?_, ?_⟩
        · refine st_ite (ans_and2 (fun Q q => ⟨_, rfl, rfl, _, rfl, q⟩) (fun Q q => ⟨_, rfl, _, _, rfl, rfl, _, rfl, q⟩)) (fun hc => ?_) (fun _ => ?_)
          · have hm : (0 : Int) < es1.length := of_decide_eq_true (Bool.and_eq_true_iff.mp hc).2
            refine ⟨_, rfl, _, rfl, p, _, rfl, hp6.same s68, by omega, by omega, fun r r0 r1 => ?_⟩
            obtain ⟨k, rfl⟩ : ∃ k : Nat, r = k := ⟨r.toNat, by omega⟩
            have hk : k < ws.length := by omega
            refine ⟨_, rfl, _, rfl, _, _, k, _, rfl, rfl, SqL.of hW, atI_nat (getMap hk), _, rfl, _, rfl, _, rfl, W, _, k, k, rfl, rfl, hW, Evl.ixN_nat (by rw [List.length_map]; exact hk), ?_⟩
            refine ⟨_, ws.set k (-ws[k]), rfl, same_mut s68 nW, ?_, by rw [List.length_set]; exact lw, fun z hz => ?_⟩
            · rw [upd_same, List.map_set]
            · rcases List.mem_or_eq_of_mem_set hz with hz | rfl
              · exact hws z hz
              · have := hws _ (List.getElem_mem hk)
                omega
          · exact ⟨_, ws, rfl, s68, hW, lw, hws⟩
        clear s68 hW lw hws
        clear ws
        rintro σ H9 ⟨z9, ws, rfl, s69, hW, lw, hws⟩
        -- leads
        have hp9 := hp6.same s69
        have gk9 := gk6.same s69
        refine ⟨_, rfl, _, rfl, l2, W, es1, ws, rfl, ⟨ys, s69 _ _ hu1, hu2.same s69⟩, hW, lw, by omega, fun H10 Ld s10 _ hLd => ?_⟩
        have lls := leads_len lw
        have llt := lead_lt (ws := ws) ltall
        -- due
        refine ⟨_, rfl, _, rfl, n, Ld, leads ws es1, rfl, hn, hLd, by omega, fun H11 dv s11 hdue => ?_⟩
        have hdue : IsDue H11 dv (ordA n (leads ws es1)) := hdue
        -- handed
        refine ⟨_, rfl, _, rfl, p, W, _, rfl, hp9.same (s10.trans s11), SqL.of (s11 _ _ (s10 _ _ hW)), fun H12 hd s12 _ hor => ?_⟩
        have s911 := s10.trans s11
        have s912 := s911.trans s12
        have gk12 := gk9.same s912
        obtain ⟨vs, hv1, hv2⟩ := hLd.same (s11.trans s12)
        have lv := hv2.len
        have hdue12 := hdue.same s12
        have rowg : ∀ H', Same H12 H' → RowP isSign K H' (.ref hd) es1.length (.bl true) ws := fun H' e => .good rfl (hor.imp (fun h => SqL.of (e _ _ h)) fun h => SqT.of (e _ _ h)) lw fun z hz => isSign_iff.mpr (hws z hz)
        -- reached
        refine ⟨_, rfl, Ld, rfl, ⟨_, SqL.of hv1⟩, fun Rc nRc => ?_⟩
        refine lc_list (K := K) (a := Ld) (xs := vs) (fun k H13 => Same H12 H13 ∧ H13 Rc = some (.lst ((((leads ws es1).map fun l => l.2).take k).map nV))) ⟨same_upd nRc, upd_same⟩ (fun k H13 _ p => SqL.of (p.1 _ _ hv1)) ?_ ?_
        · rintro k x H13 hx ⟨sm, hR⟩
          have hk : k < (leads ws es1).length := by rw [← lv]; exact (List.getElem?_eq_some_iff.mp hx).1
          obtain ⟨t, e1, e2⟩ := hv2.get hk
          rw [hx] at e1
          obtain rfl := Option.some.inj e1
          refine ⟨t, _, rfl, SqT.of (sm _ _ e2), rfl, _, _, rfl, _, _, rfl, rfl, rfl, yes_ ?_⟩
          refine ⟨_, rfl, _, hR, size_lt (by rw [List.length_map, List.length_take]; omega), same_mut sm nRc, ?_⟩
          have eL : ((leads ws es1).map fun l => l.2)[k]? = some (leads ws es1)[k].2 := by rw [List.getElem?_map, List.getElem?_eq_getElem hk]; rfl
          rw [upd_same, List.take_add_one, eL, List.map_append]; rfl
        rintro H13 ⟨s13, hR⟩
        rw [List.take_of_length_le (by rw [List.length_map]; omega)] at hR
        -- told
        refine ⟨_, rfl, _, rfl, g, n, es1, .ref hd, .bl true, ws, rfl, gk12.same s13, rowg _ s13, fun H14 s14 _ => ?_, fun _ _ _ _ ne _ => absurd rfl ne⟩
        have s1214 := s13.trans s14
        refine ⟨_, rfl, _, rfl, g, n, es1, .ref hd, .bl true, ws, rfl, gk12.same s1214, rowg _ s1214, fun H15 sA s15 _ hsA => ?_, fun _ _ _ _ ne _ => absurd rfl ne⟩
        have s1215 := s1214.trans s15
        refine ⟨_, rfl, _, rfl, g, n, es1, .ref hd, .bl true, ws, rfl, gk12.same s1215, rowg _ s1215, fun H16 dv2 s16 _ hdue2 => ?_, fun _ _ _ _ ne _ => absurd rfl ne⟩
        have hdue2 : IsDue H16 dv2 (ordA n (leads ws es1)) := hdue2
        refine ⟨by show 3 ≤ sizeLine; decide, fun T nT => ?_⟩
        generalize hls : leads ws es1 = ls at lls llt hdue hdue12 hv2 lv hR hsA hdue2 ⊢
        have sT : Same H16 (upd H16 T (.tup [.bl (ordA n ls).isSome, .ref sA, dv2])) := same_upd nT
        have hT : (upd H16 T (.tup [.bl (ordA n ls).isSome, .ref sA, dv2])) T = some (.tup [.bl (ordA n ls).isSome, .ref sA, dv2]) := upd_same
        have hsA17 := sT _ _ (s16 _ _ hsA)
        have hdue17 := hdue2.same sT
        have s1217 := (s1215.trans s16).trans sT
        have hdueA := hdue12.same s1217
        have hR17 := sT _ _ (s16 _ _ (s15 _ _ (s14 _ _ hR)))
        have s617 := (s69.trans s912).trans s1217
        have hv17 := s1217 _ _ hv1
        have hv217 := hv2.same s1217
        show Evl.tCut _ _ _ _ _
        generalize upd H16 T (.tup [.bl (ordA n ls).isSome, .ref sA, dv2]) = H17 at sT hT hsA17 hdue17 s1217 hdueA hR17 s617 hv17 hv217 ⊢
        clear hsA hdue2 hdue12 hdue hR hv1 hv2 rowg gk12 s13 s14 s15 s16 s1214 s1215 s911 s912 gk9 hp9 hLd
        have lno : ∀ o, ordA n ls = some o → o.length = n := fun o ho => by
          have := (ordF_perm n (List.range n) ls o List.length_range ho).length_eq
          rwa [List.length_range] at this
        -- if not same
        refine ⟨fun σ H18 => σ = S18 a p (some (.int (0 + (i : Nat)))) (some (nV n)) (some (.ref l2)) (some (.ref g)) (some (nV es1.length)) (some (.int (0 + (j : Nat)))) (some (.ref W)) z9 (some (.ref Ld)) (some dv) (some (.ref hd)) (some (.ref Rc)) (some (.ref T)) y15 y16 y17 y18 ∧ Same H17 H18, ?_, ?_⟩
        · refine ⟨_, rfl, _, rfl, rfl, _, rfl, _, rfl, by omega, by omega, fun L2 nL2 => ?_⟩
          refine lc_range (lo := 0) (n := n) (fun i H3 => Same H17 H3 ∧ H3 L2 = some (.lst (((List.range i).filter fun p => !(ls.map fun l => l.2).contains p).map nV))) ⟨same_upd nL2, upd_same⟩ ?_ ?_
          · rintro i H3 hi ⟨sm3, hL3⟩
            have ei : V.int (0 + (i : Int)) = nV i := by rw [Int.zero_add]
            rw [ei]
            refine ⟨rfl, ?_⟩
            refine ⟨_, rfl, _, rfl, Rc, _, rfl, .inl (SqL.of (sm3 _ _ hR17)), rfl, flat_nV _, _, rfl, ?_⟩
            have eb : (!inV (nV i) ((ls.map fun l => l.2).map nV)) = !(ls.map fun l => l.2).contains i := by rw [inV_nV]
            show ite ((!inV (nV i) ((ls.map fun l => l.2).map nV)) = true) _ _
            rw [eb]
            have er : (List.range (i + 1)).filter (fun p => !(ls.map fun l => l.2).contains p) = (List.range i).filter (fun p => !(ls.map fun l => l.2).contains p) ++ if (!(ls.map fun l => l.2).contains i) = true then [i] else [] := by
              rw [List.range_succ, List.filter_append]
              congr 1
              rw [List.filter_cons]; rfl
            cases hb : (!(ls.map fun l => l.2).contains i) with
            | true =>
              refine iteT ⟨_, rfl, _, hL3, size_lt ?_, same_mut sm3 nL2, ?_⟩
              · rw [List.length_map]
                have := List.length_filter_le (fun p => !(ls.map fun l => l.2).contains p) (List.range i)
                rw [List.length_range] at this
                omega
              · rw [upd_same, er, if_pos hb, List.map_append]; rfl
            | false =>
              refine iteF ⟨sm3, ?_⟩
              rw [er, if_neg (by rw [hb]; exact Bool.false_ne_true), List.append_nil]
              exact hL3
          · rintro H3 ⟨sm3, hL3⟩
            refine ⟨L2, _, rfl, .inl ⟨SqL.of hL3, fun l nl => ?_⟩⟩
            have sl : Same H3 (upd H3 l (.tup ((srcs n ls).map nV))) := same_upd nl
            have hl4 : (upd H3 l (.tup ((srcs n ls).map nV))) l = some (.tup ((srcs n ls).map nV)) := upd_same
            refine ⟨_, rfl, by show 3 ≤ sizeLine; decide, fun T2 nT2 => ?_⟩
            have s2 : Same (upd H3 l (.tup ((srcs n ls).map nV))) (upd (upd H3 l (.tup ((srcs n ls).map nV))) T2 (.tup [.bl (!decide (dv = .non)), .ref l, dv])) := same_upd nT2
            have s174 := (sm3.trans sl).trans s2
            have lsr : (srcs n ls).length ≤ n := by
              unfold srcs
              have := List.length_filter_le (fun p => !(ls.map fun l => l.2).contains p) (List.range n)
              rwa [List.length_range] at this
            refine ⟨.ref T, .ref T2, .tuple [.bool (ordA n ls).isSome, .tuple ((natI (srcs n ls)).map .int), dueD (ordA n ls)], rfl, .tup (SqT.of (s174 _ _ hT)) (.cons (.bl _) (.cons (.tup (SqT.of (by rw [ints_nV]; exact s174 _ _ hsA17)) (dpAll_ints _)) (.cons (hdue17.same s174).dp .nil))),
              .tup (SqT.of upd_same) (.cons (by rw [hdueA.not_non]; exact .bl _) (.cons (.tup (SqT.of (by rw [ints_nV]; exact s2 _ _ hl4)) (dpAll_ints _)) (.cons (hdueA.same s174).dp .nil))), ⟨by show 3 ≤ 100000; decide, fun d hd => ?_⟩, fun H5 s5' => ?_⟩
            · simp only [List.mem_cons, List.not_mem_nil, or_false] at hd
              rcases hd with rfl | rfl | rfl
              · exact True.intro
              · exact ⟨by unfold natI; rw [List.length_map, List.length_map]; omega, fit_ints⟩
              · exact fit_due _ fun r hr => by rw [lno r hr]; omega
            · exact ⟨_, rfl, iteF ⟨rfl, s174.trans s5'⟩⟩
        rintro σ H18 ⟨rfl, s18⟩
        -- if due is not None and not told[1]
        refine ⟨fun σ H19 => σ = S18 a p (some (.int (0 + (i : Nat)))) (some (nV n)) (some (.ref l2)) (some (.ref g)) (some (nV es1.length)) (some (.int (0 + (j : Nat)))) (some (.ref W)) z9 (some (.ref Ld)) (some dv) (some (.ref hd)) (some (.ref Rc)) (some (.ref T)) y15 y16 y17 y18 ∧ H19 = H18, ?_, ?_⟩
        · refine ⟨_, rfl, rfl, _, rfl, ?_⟩
          rw [hdueA.not_non]
          cases ho : ordA n ls with
          | none => exact iteF ⟨rfl, rfl⟩
          | some o =>
            have ns := srcs_some hn1 llt ho
            refine iteT ⟨_, rfl, _, _, 1, .ref sA, rfl, rfl, SqT.of (s18 _ _ hT), atI_nat (j := 1) rfl, _, .inr (.inl ⟨_, SqT.of (s18 _ _ hsA17), rfl⟩), ?_⟩
            have e : (!((srcs n ls).map nV).isEmpty) = true := by
              cases hs : srcs n ls with
              | nil => exact absurd hs ns
              | cons x r => rfl
            rw [e]
            exact iteF ⟨rfl, rfl⟩
        rintro σ H19 ⟨rfl, rfl⟩
        -- if n < 6
        have s518 := s56.trans (s617.trans s18)
        have fin : ∀ H' z15, Same H19 H' → AnyT a p (some (.int (0 + (i : Nat)))) n l2 g es1.length (S18 a p (some (.int (0 + (i : Nat)))) (some (nV n)) (some (.ref l2)) (some (.ref g)) (some (nV es1.length)) (some (.int (0 + (j : Nat)))) (some (.ref W)) z9 (some (.ref Ld)) (some dv) (some (.ref hd)) (some (.ref Rc)) (some (.ref T)) z15 y16 y17 y18) ∧ Same H5 H' := fun H' z15 e => ⟨⟨_, _, _, _, _, _, _, _, _, _, _, _, rfl⟩, s518.trans e⟩
        refine ⟨_, rfl, _, _, rfl, rfl, _, rfl, ifD (fun h6 => ?_) (fun _ => fin _ _ (Same.refl _))⟩
        have h6 : n < 6 := by omega
        refine ⟨_, rfl, (n : Int), rfl, .of_le (by decide) (by omega) (by decide) (by omega), fun lf nlf => ?_⟩
        have en : rgV 0 (n : Int) = (List.range n).map nV := rgV_nat (m := (n : Int)) |>.trans (by rfl)
        have slf : Same H19 (upd H19 lf (.lst (rgV 0 (n : Int)))) := same_upd nlf
        have hlf : (upd H19 lf (.lst (rgV 0 (n : Int)))) lf = some (.lst ((List.range n).map nV)) := by rw [upd_same, en]
        refine ⟨lf, List.range n, rfl, hlf, List.nodup_range, by rw [List.length_range]; omega, by rw [List.length_range]; omega, fun H20 L us s20 hL hus => ?_⟩
        have s1920 := slf.trans s20
        rw [List.length_range] at hus
        have lus := hus.len
        have hv20 := s1920 _ _ (s18 _ _ hv17)
        have hv220 := (hv217.same s18).same s1920
        have l5 := ordsL_many n (List.range n) (by rw [List.length_range]; omega)
        have p5 : 5 ^ n ≤ 5 ^ 5 := Nat.pow_le_pow_right (n := 5) (by decide) (by omega)
        have p55 : 5 ^ 5 = 3125 := by decide
        refine ⟨L, rfl, ⟨_, SqL.of hL⟩, fun Fp nFp => ?_⟩
        refine lc_list (K := K) (a := L) (xs := us) (fun k H21 => Same H20 H21 ∧ ∃ ys, H21 Fp = some (.lst ys) ∧ All2 (Frz H21) ys (((ordsL n (List.range n)).take k).filter fun r => fitB ls r)) ⟨same_upd nFp, [], upd_same, True.intro⟩ (fun k H21 _ p => SqL.of (p.1 _ _ hL)) ?_ ?_
        · rintro k x H21 hx ⟨s21, ys, hFp, hys⟩
          obtain ⟨r, hr1, t, ob, rfl, ht, hob⟩ := hus.get' hx
          have hrm := List.mem_of_getElem? hr1
          have hk : k < (ordsL n (List.range n)).length := (List.getElem?_eq_some_iff.mp hr1).1
          have hrp := ordsL_perm n _ r List.length_range List.nodup_range hrm
          have inr : ∀ y : Nat, y < n → y ∈ r := fun y hy => hrp.mem_iff.mpr (List.mem_range.mpr hy)
          have ef := filter_take (f := fun r => fitB ls r) hr1
          refine ⟨rfl, ?_⟩
          refine ⟨_, rfl, Ld, rfl, ⟨_, SqL.of (s21 _ _ hv20)⟩, fun A0 nA0 => ?_⟩
          refine lc_list (K := K) (a := Ld) (xs := vs) (fun m H22 => Same H21 H22 ∧ H22 A0 = some (.lst (((ls.map fun l => decide (r.idxOf l.1 < r.idxOf l.2)).take m).map V.bl))) ⟨same_upd nA0, upd_same⟩ (fun m H22 _ p => SqL.of (p.1 _ _ (s21 _ _ hv20))) ?_ ?_
          · rintro m x H22 hx2 ⟨s22, hA⟩
            have hm : m < ls.length := by rw [← lv]; exact (List.getElem?_eq_some_iff.mp hx2).1
            obtain ⟨t', e1, e2⟩ := hv220.get hm
            rw [hx2] at e1
            obtain rfl := Option.some.inj e1
            obtain ⟨b1, b2⟩ := llt _ (List.getElem_mem hm)
            have ht2 := s22 _ _ (s21 _ _ ht)
            refine ⟨t', _, rfl, SqT.of (s22 _ _ (s21 _ _ e2)), rfl, _, _, rfl, _, _, rfl, rfl, rfl, yes_ ?_⟩
            refine ⟨_, rfl, ⟨t, ob, _, rfl, ht2, hob⟩, _, rfl, t, _, _, r.idxOf ls[m].1, nV ls[m].1, rfl, rfl, .inl (.inr ⟨_, ht2⟩), rfl, flat_nV _, idx_get (inr _ b1), decide_eq_true rfl, idx_no, ?_⟩
            refine ⟨_, rfl, ⟨t, ob, _, rfl, ht2, hob⟩, _, rfl, t, _, _, r.idxOf ls[m].2, nV ls[m].2, rfl, rfl, .inl (.inr ⟨_, ht2⟩), rfl, flat_nV _, idx_get (inr _ b2), decide_eq_true rfl, idx_no, ?_⟩
            refine ⟨_, _, rfl, rfl, ?_⟩
            have eb : (ls.map fun l => decide (r.idxOf l.1 < r.idxOf l.2))[m]? = some (decide (r.idxOf ls[m].1 < r.idxOf ls[m].2)) := by rw [List.getElem?_map, List.getElem?_eq_getElem hm]; rfl
            have eq2 : decide ((r.idxOf ls[m].1 : Int) < (r.idxOf ls[m].2 : Int)) = decide (r.idxOf ls[m].1 < r.idxOf ls[m].2) := decide_eq_decide.mpr (by omega)
            refine ⟨_, hA, size_lt (by rw [List.length_map, List.length_take]; omega), same_mut s22 nA0, ?_⟩
            rw [upd_same, List.take_add_one, eb, List.map_append, ← eq2]; rfl
          · rintro H22 ⟨s22, hA⟩
            rw [List.take_of_length_le (by rw [List.length_map]; omega)] at hA
            refine ⟨A0, _, rfl, SqL.of hA, _, rfl, ?_⟩
            have eall : (ls.map fun l => decide (r.idxOf l.1 < r.idxOf l.2)).all id = fitB ls r := by
              unfold fitB
              rw [List.all_map]; rfl
            show ite ((ls.map fun l => decide (r.idxOf l.1 < r.idxOf l.2)).all id = true) _ _
            rw [eall]
            have ht2 := s22 _ _ (s21 _ _ ht)
            have hFp2 := s22 _ _ hFp
            have lys := hys.len
            have lfl := List.length_filter_le (fun r => fitB ls r) ((ordsL n (List.range n)).take k)
            rw [List.length_take] at lfl
            cases hb : fitB ls r with
            | true =>
              have keep : ∀ v r', Frz H22 v r' → Frz (upd H22 Fp (.lst (ys ++ [.ref t]))) v r' := fun v r' ⟨t, ob, a1, a2, a3⟩ => ⟨t, ob, a1, by rw [upd_ne (ne_of a2 hFp2 (fun z => by cases z))]; exact a2, a3⟩
              refine iteT ⟨_, rfl, ys, hFp2, size_lt (by omega), same_mut (s21.trans s22) nFp, _, upd_same, ?_⟩
              rw [ef, if_pos hb]
              exact All2.snoc ((frzAll_same hys s22).mono keep) (keep _ _ ⟨t, ob, rfl, ht2, hob⟩)
            | false =>
              refine iteF ⟨s21.trans s22, ys, hFp2, ?_⟩
              rw [ef, if_neg (by rw [hb]; exact Bool.false_ne_true), List.append_nil]
              exact frzAll_same hys s22
        rintro H21 ⟨s21, ys2, hFp, hys⟩
        rw [lus, List.take_length] at hys
        have hys : All2 (Frz H21) ys2 (fitL n ls) := hys
        have s1921 := s1920.trans s21
        have hdueB := hdueA.same (s18.trans s1921)
        have lys2 := hys.len
        refine ⟨_, rfl, _, rfl, _, .inl ⟨_, SqL.of hFp, rfl⟩, ?_⟩
        cases ho : ordA n ls with
        | none =>
          rw [ho] at hdueB
          rw [fit_none llt ho] at lys2
          have : ys2 = [] := List.eq_nil_of_length_eq_zero lys2
          subst this
          refine iteF ⟨dv, .non, .none, rfl, hdueB.dp, .non, True.intro, fun H22 s22 => ?_⟩
          exact ⟨_, rfl, iteF (fin _ _ (s1921.trans s22))⟩
        | some o =>
          rw [ho] at hdueB
          obtain ⟨f1, f2⟩ := fit_some llt ho
          have flen : ∀ r ∈ fitL n ls, r.length = n := fun r hr => fit_len hr
          generalize fitL n ls = fl at hys f1 f2 lys2 flen
          rcases fl with _ | ⟨r0, rs⟩
          · cases f1
          have ne : (!ys2.isEmpty) = true := by
            cases ys2 with
            | nil => cases lys2
            | cons _ _ => rfl
          rw [ne]
          have hall := frz_all (K := K) hys
          rw [List.map_cons] at hall
          refine iteT ⟨_, rfl, Fp, ys2, tupD r0, rs.map tupD, rfl, SqL.of hFp, hall, by rw [← List.map_cons]; exact alike_tups _, by rw [← List.map_cons]; exact Nat.le_trans (depth_tups _) (by decide), fun k v hv hmin => ?_⟩
          rw [min_tups f1 f2] at hmin
          obtain ⟨r, hr1, hr2⟩ := hys.get' hv
          have er : tupD r = tupD o := by
            rw [← hmin, ← List.map_cons, List.getD_eq_getElem?_getD, List.getElem?_map, hr1]; rfl
          have dpv : Dp K H21 v (tupD o) := er ▸ frz_dp hr2
          refine ⟨dv, v, tupD o, rfl, hdueB.dp, dpv, ?_, fun H22 s22 => ?_⟩
          · refine ⟨by unfold natI; rw [List.length_map, List.length_map, flen o f1]; omega, fit_ints⟩
          · exact ⟨_, rfl, iteF (fin _ _ (s1921.trans s22))⟩
      rintro σ H6 ⟨⟨y7, y8, y9, y10, y11, y12, y13, y14, y15, y16, y17, y18, rfl⟩, s56⟩
      have hp6 := hp5.same s56
      have gk6 := gk5.same s56
      have hu1 := s56 _ _ hy1
      have hu2 := hy2.same s56
      -- if many < 10
      refine ⟨fun σ H7 => (∃ y8, σ = S18 a p (some (.int (0 + (i : Nat)))) (some (nV n)) (some (.ref l2)) (some (.ref g)) (some (nV es1.length)) y7 y8 y9 y10 y11 y12 y13 y14 y15 y16 y17 y18) ∧ Same H6 H7, ?_, ?_⟩
      · refine ⟨_, rfl, _, _, rfl, rfl, _, rfl, ifD (fun h10 => ?_) (fun _ => ⟨⟨_, rfl⟩, Same.refl _⟩)⟩
        have h10 : es1.length < 10 := by omega
        refine ⟨_, rfl, es1.length, rfl, by omega, fun H7 L us s7 hL hus => ?_⟩
        have lus := hus.len
        have lw := waysL_many es1.length
        have l9 : 2 ^ es1.length ≤ 2 ^ 9 := Nat.pow_le_pow_right (n := 2) (by decide) (by omega)
        have l99 : 2 ^ 9 = 512 := by decide
        refine ⟨L, rfl, ⟨_, SqL.of hL⟩, fun Sm nSm => ?_⟩
        refine lc_list (K := K) (a := L) (xs := us) (fun k H8 => Same H7 H8 ∧ H8 Sm = some (.lst ((((waysL es1.length).take k).map fun ws => if (ordA n (leads ws es1)).isSome = true then (1 : Int) else 0).map V.int))) ⟨same_upd nSm, upd_same⟩ (fun k H8 _ p => SqL.of (p.1 _ _ hL)) ?_ ?_
        · rintro k x H8 hx ⟨s8, hSm⟩
          obtain ⟨ws, hr1, t, rfl, ht⟩ := hus.get' hx
          have hk : k < (waysL es1.length).length := (List.getElem?_eq_some_iff.mp hr1).1
          have hwm := List.mem_of_getElem? hr1
          refine ⟨rfl, yes_ ?_⟩
          refine ⟨_, rfl, _, rfl, g, n, es1, .ref t, .bl true, ws, rfl, gk6.same (s7.trans s8), .good rfl (.inr (Same.seqT s8 ht)) (waysL_len _ _ hwm) (fun z hz => isSign_iff.mpr (waysL_one _ _ hwm z hz)), fun H9 s9 _ => ?_, fun _ _ _ _ ne _ => absurd rfl ne⟩
          refine .inr ⟨_, rfl, ?_⟩
          refine ⟨_, s9 _ _ hSm, size_lt (by rw [List.length_map, List.length_map, List.length_take]; omega), same_mut (s8.trans s9) nSm, ?_⟩
          rw [upd_same, map_snoc hr1, List.map_append]; rfl
        · rintro H8 ⟨s8, hSm⟩
          rw [lus, List.take_length] at hSm
          refine ⟨Sm, _, rfl, SqL.of hSm, ?_⟩
          rw [cnt_sum ltall]
          have s68 := s7.trans s8
          refine ⟨_, rfl, _, rfl, l2, n, es1, rfl, ⟨ys, s68 _ _ hu1, hu2.same s68⟩, h10, by omega, fun H9 s9 => ?_⟩
          refine ⟨rfl, _, rfl, ifN (fun ne => absurd rfl ne) (fun _ => ?_)⟩
          exact ⟨⟨_, rfl⟩, s68.trans s9⟩
      rintro σ H7 ⟨⟨z8, rfl⟩, s67⟩
      have hp7 := hp6.same s67
      -- word
      refine ⟨fun σ H8 => ∃ wd : Str, σ = S18 a p (some (.int (0 + (i : Nat)))) (some (nV n)) (some (.ref l2)) (some (.ref g)) (some (nV es1.length)) y7 z8 y9 y10 y11 y12 y13 y14 y15 (some (.str wd)) y17 y18 ∧ Same H7 H8, ?_, ?_⟩
      · refine ⟨_, rfl, by show 3 ≤ sizeLine; decide, fun L1 n1 => ?_⟩
        have s1 : Same H7 (upd H7 L1 (.lst [.str "acyclic", .str "sources", .str "ordered"])) := same_upd n1
        refine ⟨p, L1, _, rfl, hp7.same s1, SqL.of upd_same, by show 0 < 3; decide, by show 3 < 1000000000; decide, fun i1 v1 hv1 => ?_⟩
        have hm := List.mem_of_getElem? hv1
        simp only [List.mem_cons, List.not_mem_nil, or_false] at hm
        rcases hm with rfl | rfl | rfl
        · exact ⟨_, rfl, s1⟩
        · exact ⟨_, rfl, s1⟩
        · exact ⟨_, rfl, s1⟩
      rintro σ H8 ⟨wd, rfl, s78⟩
      have hp8 := hp7.same s78
      -- row, number
      refine ⟨fun σ H9 => ∃ v : V, σ = S18 a p (some (.int (0 + (i : Nat)))) (some (nV n)) (some (.ref l2)) (some (.ref g)) (some (nV es1.length)) y7 z8 y9 y10 y11 y12 y13 y14 y15 (some (.str wd)) (some v) (some .non) ∧ Same H8 H9 ∧ RowP isSign K H9 v es1.length .non [], ?_, ?_⟩
      · refine ⟨_, rfl, _, rfl, "1", es1.length, rfl, rfl, rfl, by omega, fun z' => ?_⟩
        intro dA nd
        have s1 : Same H8 (upd H8 dA (.dK [])) := same_upd nd
        have hd : (upd H8 dA (.dK [])) dA = some (.dK []) := upd_same
        generalize upd H8 dA (.dK []) = H9 at s1 hd ⊢
        refine ⟨by show 1 ≤ sizeLine; decide, fun z0 nz => ?_⟩
        have s2 : Same H9 (upd H9 z0 (.lst [.int 1])) := same_upd nz
        have hz : (upd H9 z0 (.lst [.int 1])) z0 = some (.lst [.int 1]) := upd_same
        refine ⟨_, rfl, _, _, rfl, rfl, ?_⟩
        show rRep (.ref z0) (.int ((es1.length : Int) + 1)) (upd H9 z0 (.lst [.int 1])) _
        generalize upd H9 z0 (.lst [.int 1]) = H10 at s2 hz ⊢
        refine ⟨z0, _, [.int 1], rfl, rfl, hz, by omega, by omega, size_le (by show 1 * _ ≤ _; omega), fun aR naR => ?_⟩
        have e : (List.replicate ((es1.length : Int) + 1).toNat [V.int 1]).flatten = List.replicate (es1.length + 1) (V.int 1) := by rw [rep_one]; congr 1
        rw [e]
        have s3 : Same H10 (upd H10 aR (.lst (List.replicate (es1.length + 1) (V.int 1)))) := same_upd naR
        have haR : (upd H10 aR (.lst (List.replicate (es1.length + 1) (V.int 1)))) aR = some (.lst (List.replicate (es1.length + 1) (V.int 1))) := upd_same
        generalize upd H10 aR (.lst (List.replicate (es1.length + 1) (V.int 1))) = H11 at s3 haR ⊢
        refine ⟨by show 6 ≤ sizeLine; decide, fun L nL => ?_⟩
        have s4 : Same H11 (upd H11 L (.lst [.non, .int 3, .str z', .ref dA, .ref aR, .bl true])) := same_upd nL
        have hL : (upd H11 L (.lst [.non, .int 3, .str z', .ref dA, .ref aR, .bl true])) L = some (.lst [.non, .int 3, .str z', .ref dA, .ref aR, .bl true]) := upd_same
        generalize upd H11 L (.lst [.non, .int 3, .str z', .ref dA, .ref aR, .bl true]) = H12 at s4 hL ⊢
        have s812 := ((s1.trans s2).trans s3).trans s4
        refine ⟨p, L, _, rfl, hp8.same s812, SqL.of hL, by show 0 < 6; decide, by show 6 < 1000000000; decide, fun i1 v hv => ?_⟩
        refine ⟨_, _, rfl, v, rfl, s812, ?_⟩
        have hm := List.mem_of_getElem? hv
        simp only [List.mem_cons, List.not_mem_nil, or_false] at hm
        rcases hm with rfl | rfl | rfl | rfl | rfl | rfl
        · exact .kind (d := .none) (.base .non) rfl
        · exact .kind (d := .int 3) (.base (.int 3)) rfl
        · exact .kind (d := .str z') (.base (.str z')) rfl
        · exact .kind (d := .dict []) (.base (.dK (((s2.trans s3).trans s4) _ _ hd))) rfl
        · refine .long rfl (.inl (SqL.of (s4 _ _ haR))) ?_
          rw [List.length_replicate]
          omega
        · exact .kind (d := .bool true) (.base (.bl true)) rfl
      rintro σ H9 ⟨v, rfl, s89, hv⟩
      have hp9 := hp8.same s89
      -- the row with one wrong number
      refine ⟨fun σ H10 => ∃ (v r : V), σ = S18 a p (some (.int (0 + (i : Nat)))) (some (nV n)) (some (.ref l2)) (some (.ref g)) (some (nV es1.length)) y7 z8 y9 y10 y11 y12 y13 y14 y15 (some (.str wd)) (some v) (some r) ∧ Same H9 H10 ∧ RowP isSign K H10 v es1.length r [] ∧ r ≠ .bl true, ?_, ?_⟩
      · have stay : ∃ (v' r : V), S18 a p (some (.int (0 + (i : Nat)))) (some (nV n)) (some (.ref l2)) (some (.ref g)) (some (nV es1.length)) y7 z8 y9 y10 y11 y12 y13 y14 y15 (some (.str wd)) (some v) (some .non) = S18 a p (some (.int (0 + (i : Nat)))) (some (nV n)) (some (.ref l2)) (some (.ref g)) (some (nV es1.length)) y7 z8 y9 y10 y11 y12 y13 y14 y15 (some (.str wd)) (some v') (some r) ∧ Same H9 H9 ∧ RowP isSign K H9 v' es1.length r [] ∧ r ≠ .bl true := ⟨v, .non, rfl, Same.refl _, hv, fun z => by cases z⟩
        refine ⟨_, rfl, _, _, rfl, rfl, _, rfl, ifD (fun hm => ?_) (fun _ => stay)⟩
        refine ⟨_, rfl, p, 2, rfl, hp9, by decide, by decide, fun rr _ _ => ⟨rfl, _, rfl, ifD (fun _ => ?_) (fun _ => stay)⟩⟩
        clear stay
        have hm : (0 : Int) < es1.length := hm
        refine ⟨_, rfl, _, rfl, p, _, rfl, hp9, by omega, by omega, fun rk k0 k1 => ?_⟩
        obtain ⟨k, rfl⟩ : ∃ k : Nat, rk = k := ⟨rk.toNat, by omega⟩
        have hk : k < es1.length := by omega
        -- [1] * number
        refine ⟨by show 1 ≤ sizeLine; decide, fun z0 nz => ?_⟩
        have s1 : Same H9 (upd H9 z0 (.lst [.int 1])) := same_upd nz
        have hz : (upd H9 z0 (.lst [.int 1])) z0 = some (.lst [.int 1]) := upd_same
        refine ⟨_, rfl, ?_⟩
        show rRep (.ref z0) (.int (k : Int)) (upd H9 z0 (.lst [.int 1])) _
        generalize upd H9 z0 (.lst [.int 1]) = H10 at s1 hz ⊢
        refine ⟨z0, _, [.int 1], rfl, rfl, hz, by omega, by omega, size_le (by show 1 * _ ≤ _; omega), fun aR naR => ?_⟩
        have e : (List.replicate ((k : Nat) : Int).toNat [V.int 1]).flatten = List.replicate k (V.int 1) := by rw [rep_one]; congr 1
        rw [e]
        have s2 : Same H10 (upd H10 aR (.lst (List.replicate k (V.int 1)))) := same_upd naR
        have haR : (upd H10 aR (.lst (List.replicate k (V.int 1)))) aR = some (.lst (List.replicate k (V.int 1))) := upd_same
        generalize upd H10 aR (.lst (List.replicate k (V.int 1))) = H11 at s2 haR ⊢
        -- the wrong one
        refine ⟨_, rfl, by show 1 ≤ sizeLine; decide, fun t1 nt1 => ?_⟩
        have s3 : Same H11 (upd H11 t1 (.tup [.int 1])) := same_upd nt1
        have ht1 : (upd H11 t1 (.tup [.int 1])) t1 = some (.tup [.int 1]) := upd_same
        generalize upd H11 t1 (.tup [.int 1]) = H12 at s3 ht1 ⊢
        refine ⟨by show 6 ≤ sizeLine; decide, fun L nL => ?_⟩
        have s4 : Same H12 (upd H12 L (.lst [.int 0, .int 2, .bl true, .non, .str "1", .ref t1])) := same_upd nL
        have hL : (upd H12 L (.lst [.int 0, .int 2, .bl true, .non, .str "1", .ref t1])) L = some (.lst [.int 0, .int 2, .bl true, .non, .str "1", .ref t1]) := upd_same
        generalize upd H12 L (.lst [.int 0, .int 2, .bl true, .non, .str "1", .ref t1]) = H13 at s4 hL ⊢
        have s913 := ((s1.trans s2).trans s3).trans s4
        refine ⟨p, L, _, rfl, hp9.same s913, SqL.of hL, by show 0 < 6; decide, by show 6 < 1000000000; decide, fun i1 wv hw => ?_⟩
        obtain ⟨dw, hdw, hnw⟩ : ∃ dw, Dp K H13 wv dw ∧ isSign dw = false := by
          have hm := List.mem_of_getElem? hw
          simp only [List.mem_cons, List.not_mem_nil, or_false] at hm
          rcases hm with rfl | rfl | rfl | rfl | rfl | rfl
          · exact ⟨_, .int 0, rfl⟩
          · exact ⟨_, .int 2, rfl⟩
          · exact ⟨_, .bl true, rfl⟩
          · exact ⟨_, .non, rfl⟩
          · exact ⟨_, .str "1", rfl⟩
          · exact ⟨.tuple [.int 1], .tup (SqT.of (s4 _ _ ht1)) (.cons (.int 1) .nil), rfl⟩
        refine ⟨by show 1 ≤ sizeLine; decide, fun p3 np3 => ?_⟩
        have s5' : Same H13 (upd H13 p3 (.lst [wv])) := same_upd np3
        have hp3 : (upd H13 p3 (.lst [wv])) p3 = some (.lst [wv]) := upd_same
        show rCat (.ref aR) (.ref p3) (upd H13 p3 (.lst [wv])) _
        generalize upd H13 p3 (.lst [wv]) = H14 at s5' hp3 ⊢
        have s1114 := (s3.trans s4).trans s5'
        refine ⟨aR, p3, _, _, rfl, rfl, s1114 _ _ haR, hp3, size_le (by rw [List.length_replicate]; show _ + 1 ≤ _; omega), fun p4 np4 => ?_⟩
        have s6' : Same H14 (upd H14 p4 (.lst (List.replicate k (V.int 1) ++ [wv]))) := same_upd np4
        have hp4 : (upd H14 p4 (.lst (List.replicate k (V.int 1) ++ [wv]))) p4 = some (.lst (List.replicate k (V.int 1) ++ [wv])) := upd_same
        generalize upd H14 p4 (.lst (List.replicate k (V.int 1) ++ [wv])) = H15 at s6' hp4 ⊢
        have s915 := (s913.trans s5').trans s6'
        -- the later ones
        refine ⟨_, rfl, _, _, rfl, rfl, _, rfl, _, _, rfl, ⟨by omega, by omega, by omega, by omega⟩, fun L2 nL2 => ?_⟩
        refine lc_range (lo := (k : Int) + 1) (n := ((es1.length : Int) - ((k : Int) + 1)).toNat) (fun m H' => Same H15 H' ∧ ∃ vs : List V, vs.length = m ∧ H' L2 = some (.lst vs) ∧ ∀ v ∈ vs, v = .non ∨ ∃ i, v = .int i) ⟨same_upd nL2, [], rfl, upd_same, fun _ h => nomatch h⟩ ?_ ?_
        · rintro m H' hmm ⟨sm, vs, lv, hL2, hvs⟩
          refine ⟨rfl, yes_ ?_⟩
          refine ⟨_, rfl, _, rfl, by show 3 ≤ sizeLine; decide, fun L3 n3 => ?_⟩
          have s6 : Same H' (upd H' L3 (.lst [.int 1, .int (-1), .non])) := same_upd n3
          have hL3 : (upd H' L3 (.lst [.int 1, .int (-1), .non])) L3 = some (.lst [.int 1, .int (-1), .non]) := upd_same
          refine ⟨p, L3, [.int 1, .int (-1), .non], rfl, hp9.same ((s915.trans sm).trans s6), SqL.of hL3, by show 0 < 3; decide, by show 3 < 1000000000; decide, fun i2 v2 hv2 => ?_⟩
          refine ⟨vs, s6 _ _ hL2, size_lt (by omega), same_mut (sm.trans s6) nL2, vs ++ [v2], by rw [List.length_append, lv]; rfl, upd_same, fun v hv => ?_⟩
          rcases List.mem_append.mp hv with hv | hv
          · exact hvs v hv
          · rw [List.mem_singleton.mp hv]
            have hm := List.mem_of_getElem? hv2
            simp only [List.mem_cons, List.not_mem_nil, or_false] at hm
            rcases hm with rfl | rfl | rfl
            · exact .inr ⟨_, rfl⟩
            · exact .inr ⟨_, rfl⟩
            · exact .inl rfl
        · rintro H16 ⟨s16, vs, lv, hL2, hvs⟩
          refine ⟨p4, L2, _, _, rfl, rfl, s16 _ _ hp4, hL2, size_le (by rw [List.length_append, List.length_replicate]; show _ + 1 + _ ≤ _; omega), fun p5 np5 => ?_⟩
          have s17 : Same H16 (upd H16 p5 (.lst (List.replicate k (V.int 1) ++ [wv] ++ vs))) := same_upd np5
          have hp5' : (upd H16 p5 (.lst (List.replicate k (V.int 1) ++ [wv] ++ vs))) p5 = some (.lst (List.replicate k (V.int 1) ++ [wv] ++ vs)) := upd_same
          have s917 := (s915.trans s16).trans s17
          refine ⟨_, rfl, _, rfl, p, p5, _, rfl, hp9.same s917, SqL.of hp5', fun H18 pr s18 npr hor => ?_⟩
          refine ⟨.ref pr, nV k, rfl, s917.trans s18, ?_, fun z => by cases z⟩
          have hdw18 : Dp K H18 wv dw := Dp.same ((((s5'.trans s6').trans s16).trans s17).trans s18) hdw
          refine .bad (ds := List.replicate k (.int 1) ++ [dw] ++ vs.map flatO) rfl (hor.imp SqL.of SqT.of) (DpAll.app (DpAll.app (dp_ones k) (.cons hdw18 .nil)) (dp_flatO hvs)) ?_ hk ?_ ?_
          · rw [List.length_append, List.length_append, List.length_map, List.length_replicate]
            show k + 1 + vs.length = es1.length
            omega
          · intro j d hj hd
            rw [List.append_assoc, List.getElem?_append_left (by rw [List.length_replicate]; exact hj), List.getElem?_replicate, if_pos hj] at hd
            rw [← Option.some.inj hd]; rfl
          · intro d hd
            have l1 : (List.replicate k (PyData.int 1)).length = k := List.length_replicate
            rw [List.append_assoc, List.getElem?_append_right (by omega), l1, Nat.sub_self] at hd
            have : dw = d := Option.some.inj hd
            rw [← this]; exact hnw
      rintro σ H10 ⟨v2, r, rfl, s910, hv2, ne⟩
      -- the end of the turn
      have gk10 := ((gk6.same s67).same ((s78.trans s89).trans s910))
      have hp10 := hp9.same s910
      refine ⟨_, rfl, _, rfl, _, rfl, g, n, es1, wd, v2, r, rfl, gk10, hv2, ne, fun H11 y s11 dy => ?_⟩
      refine ⟨_, rfl, by show 3 ≤ sizeLine; decide, fun T nT => ?_⟩
      have sT : Same H11 (upd H11 T (.tup [.str "refused", r, .bl true])) := same_upd nT
      refine ⟨y, .ref T, .tuple [.str "refused", numP r, .bool true], rfl, Dp.same sT dy, .tup (SqT.of upd_same) (.cons (.str "refused") (.cons (hv2.num ne _ _) (.cons (.bl true) .nil))), ⟨by show 3 ≤ 100000; decide, fun d hd => ?_⟩, fun H12 s12 => ?_⟩
      · simp only [List.mem_cons, List.not_mem_nil, or_false] at hd
        rcases hd with rfl | rfl | rfl
        · exact True.intro
        · cases r <;> exact True.intro
        · exact True.intro
      · exact ⟨_, rfl, iteF ⟨⟨_, _, _, _, _, _, _, _, _, _, _, _, _, _, _, _, _, rfl⟩, hp10.same (s11.trans (sT.trans s12))⟩⟩
    · rintro σ H2 ⟨⟨x2, x3, x4, x5, x6, x7, x8, x9, x10, x11, x12, x13, x14, x15, x16, x17, x18, rfl⟩, hp2⟩
      exact q _
end
end G3

set_option Elab.async false
set_option linter.all false
set_option maxRecDepth 100000
set_option maxHeartbeats 0
namespace G3
open PySem PySem.Spec PyProof.Rows L2
abbrev RR : PySem.W.OpenRow := PySem.W.OpenLaw.row PySem.Challenge.rw_chipsproved_k13_orientations
def d_told_orientation : He.DefD := ⟨("told_orientation", none), "told_orientation", "told_orientation", defArgs (top 11), defBody (top 11), defScope (top 11), [], []⟩
def d_ordered : He.DefD := ⟨("ordered", none), "ordered", "ordered", defArgs (top 12), defBody (top 12), defScope (top 12), [], []⟩
def d_is_acyclic : He.DefD := ⟨("is_acyclic", none), "is_acyclic", "is_acyclic", defArgs (top 13), defBody (top 13), defScope (top 13), [], []⟩
def d_sources : He.DefD := ⟨("sources", none), "sources", "sources", defArgs (top 14), defBody (top 14), defScope (top 14), [], []⟩
def d_is_whole : He.DefD := ⟨("is_whole", none), "is_whole", "is_whole", defArgs (top 7), defBody (top 7), defScope (top 7), [], []⟩
def d_edge_fault : He.DefD := ⟨("edge_fault", none), "edge_fault", "edge_fault", defArgs (top 8), defBody (top 8), defScope (top 8), [], []⟩
def d_together : He.DefD := ⟨("together", none), "together", "together", defArgs (top 9), defBody (top 9), defScope (top 9), [], []⟩
def d_law_pool : He.DefD := ⟨("_law_pool", none), "_law_pool", "_law_pool", defArgs (top 16), defBody (top 16), defScope (top 16), [], []⟩
def d_law_take : He.DefD := ⟨("_law_take", none), "_law_take", "_law_take", defArgs (top 17), defBody (top 17), defScope (top 17), [], []⟩
def d_law_pick : He.DefD := ⟨("_law_pick", none), "_law_pick", "_law_pick", defArgs (top 18), defBody (top 18), defScope (top 18), [], []⟩
def d_law_is_integer : He.DefD := ⟨("_law_is_integer", none), "_law_is_integer", "_law_is_integer", defArgs (top 19), defBody (top 19), defScope (top 19), [], []⟩
def d_law_same : He.DefD := ⟨("_law_same", none), "_law_same", "_law_same", defArgs (top 20), defBody (top 20), defScope (top 20), [], []⟩
def d_law_order : He.DefD := ⟨("_law_order", none), "_law_order", "_law_order", defArgs (top 21), defBody (top 21), defScope (top 21), [], []⟩
def d_law_given : He.DefD := ⟨("_law_given", none), "_law_given", "_law_given", defArgs (top 22), defBody (top 22), defScope (top 22), [], []⟩
def d_law_graph : He.DefD := ⟨("_law_graph", none), "_law_graph", "_law_graph", defArgs (top 23), defBody (top 23), defScope (top 23), [], []⟩
def d_law_all_pairs : He.DefD := ⟨("_law_all_pairs", none), "_law_all_pairs", "_law_all_pairs", defArgs (top 24), defBody (top 24), defScope (top 24), [], []⟩
def d_law_away : He.DefD := ⟨("_law_away", none), "_law_away", "_law_away", defArgs (top 25), defBody (top 25), defScope (top 25), [], []⟩
def d_law_refused : He.DefD := ⟨("_law_refused", none), "_law_refused", "_law_refused", defArgs (top 26), defBody (top 26), defScope (top 26), [], []⟩
def d_law_leads : He.DefD := ⟨("_law_leads", none), "_law_leads", "_law_leads", defArgs (top 27), defBody (top 27), defScope (top 27), [], []⟩
def d_law_first : He.DefD := ⟨("_law_first", none), "_law_first", "_law_first", defArgs (top 28), defBody (top 28), defScope (top 28), [], []⟩
def d_law_orders : He.DefD := ⟨("_law_orders", none), "_law_orders", "_law_orders", defArgs (top 29), defBody (top 29), defScope (top 29), [], []⟩
def d_law_count : He.DefD := ⟨("_law_count", none), "_law_count", "_law_count", defArgs (top 30), defBody (top 30), defScope (top 30), [], []⟩
def d_law_all_ways : He.DefD := ⟨("_law_all_ways", none), "_law_all_ways", "_law_all_ways", defArgs (top 31), defBody (top 31), defScope (top 31), [], []⟩
def d_law : He.DefD := ⟨("law", none), "law", "law", defArgs (top 32), defBody (top 32), defScope (top 32), [], []⟩
def d_Graph___init__ : He.DefD := ⟨("Graph", some "__init__"), "__init__", "Graph.__init__", defArgs (inClass (top 10) 0), defBody (inClass (top 10) 0), defScope (inClass (top 10) 0), [], []⟩
def fn : List He.DefD := ([d_told_orientation, d_ordered, d_is_acyclic, d_sources, d_is_whole, d_edge_fault, d_together, d_law_pool, d_law_take, d_law_pick, d_law_is_integer, d_law_same, d_law_order, d_law_given, d_law_graph, d_law_all_pairs, d_law_away, d_law_refused, d_law_leads, d_law_first, d_law_orders, d_law_count, d_law_all_ways, d_law, d_Graph___init__] : List He.DefD)
def fa : List He.Fa := ([.glo "told_orientation", .glo "ordered", .glo "is_acyclic", .glo "sources", .glo "is_whole", .glo "edge_fault", .glo "together", .glo "_law_pool", .glo "_law_take", .glo "_law_pick", .glo "_law_is_integer", .glo "_law_same", .glo "_law_order", .glo "_law_given", .glo "_law_graph", .glo "_law_all_pairs", .glo "_law_away", .glo "_law_refused", .glo "_law_leads", .glo "_law_first", .glo "_law_orders", .glo "_law_count", .glo "_law_all_ways", .glo "law", .glo "Graph"] : List He.Fa) ++ ([.glo "BadOrientation", .glo "ChipError", .free "len", .free "int", .free "list", .free "tuple", .free "range", .free "isinstance", .free "bool", .free "str", .free "all", .free "any", .free "min", .free "max", .free "sum", .free "enumerate", .free "zip", .free "sorted", .free "repr", .free "super", .int "MOST_PLACES" 64, .int "MOST_EDGES" 400, .cls "Graph", .mkr "Graph", .noat "Graph" "n"] : List He.Fa) ++ ([.noat "Graph" "edges", .noat "Graph" "genus", .noat "Graph" "kept", .exm "BadOrientation" "BadOrientation" true] : List He.Fa)
def loose : List Str := (["ChipError", "MOST_PLACES", "MOST_EDGES", "BadGraph", "BadOrientation", "is_whole", "edge_fault", "together", "Graph", "told_orientation", "ordered", "is_acyclic", "sources", "_law_pool", "_law_take", "_law_pick", "_law_is_integer", "_law_same", "_law_order", "_law_given", "_law_graph", "_law_all_pairs", "_law_away", "_law_refused", "_law_leads"] : List Str) ++ (["_law_first", "_law_orders", "_law_count", "_law_all_ways"] : List Str)
def sup : List Str := ["BadOrientation"]
abbrev sB : Stmt := inClass (top 6) 0
def sv : List SupX.FnC := [some ((("__init__" : Str)), "BadOrientation.__init__", defArgs sB, FuncBody.stmts (defBody sB), defScope sB, mainGlobals, builtinsNs)]
def kitB (K : PySem.W.Frag) (x : Str) (c : Value) : Bool := decide (PySem.W.kitOne K (.ref (He.ga K x)) c = some true)
def mine (K : PySem.W.Frag) : Bool := SupX.supB K (RR.prog.main.file : Str) "BadOrientation" "BadOrientation.__init__" && kitB K "BadOrientation" (.ref (He.ga K "ChipError"))
abbrev hk : PySem.W.Hook := SupX.hookX 6 fa fn sup sv mine
def ob (s : PySem.W.SharedT) : SupX.AlX := SupX.obsXG 6 fa fn sup mine (HandSHeadRun.getT s)
theorem ob_eq (s : PySem.W.SharedT) : ob s = hk.obs s.abs := SupX.obsXG_eq (HandSHeadRun.getT_eq s)
theorem run (w : World) : HandSHeadRun.RunEq RR (PySem.W.view RR.prog [32]) hk ob 20000 loose w := by
  intro os
  kernel_rfl
abbrev PP : Program := (PySem.Challenge.rw_chipsproved_k13_orientations).prog
theorem formB : ∃ p1 p2 q1 q2 q3 q4 q5 q6 q7 q8 q9 q10, defArgs sB = SupX.iA p1 p2 ∧ defBody sB = SupX.iB q1 q2 q3 q4 q5 q6 q7 q8 q9 q10 ∧ defScope sB = SupX.iS ∧ (q3.endLine == q5.line) = true := ⟨_, _, _, _, _, _, _, _, _, _, _, _, rfl, rfl, rfl, rfl⟩
theorem noSuper : (PP.main.scope.names.lookup (Str.ofString "super")).isSome = false := by decide +kernel
theorem facts {w : World} {K : PySem.W.Frag} {h : Heap} {mg : Str → Option Value} (X : K.In h) (G : h.Ns mainGlobals mg) (hx : SupX.obsX fa fn sup mine K = SupX.valX fn sv) (base : Heap) : HasG PP w K mg base CX0 12 "law" p_law (spLaw K) := by
  obtain ⟨c, hm, hsv⟩ := SupX.saysX hx
  have g_told_orientation := He.glo_ok X G (c.fact 0 (f := .glo "told_orientation") rfl)
  have g_ordered := He.glo_ok X G (c.fact 1 (f := .glo "ordered") rfl)
  have g_is_acyclic := He.glo_ok X G (c.fact 2 (f := .glo "is_acyclic") rfl)
  have g_sources := He.glo_ok X G (c.fact 3 (f := .glo "sources") rfl)
  have g_is_whole := He.glo_ok X G (c.fact 4 (f := .glo "is_whole") rfl)
  have g_edge_fault := He.glo_ok X G (c.fact 5 (f := .glo "edge_fault") rfl)
  have g_together := He.glo_ok X G (c.fact 6 (f := .glo "together") rfl)
  have g_law_pool := He.glo_ok X G (c.fact 7 (f := .glo "_law_pool") rfl)
  have g_law_take := He.glo_ok X G (c.fact 8 (f := .glo "_law_take") rfl)
  have g_law_pick := He.glo_ok X G (c.fact 9 (f := .glo "_law_pick") rfl)
  have g_law_is_integer := He.glo_ok X G (c.fact 10 (f := .glo "_law_is_integer") rfl)
  have g_law_same := He.glo_ok X G (c.fact 11 (f := .glo "_law_same") rfl)
  have g_law_order := He.glo_ok X G (c.fact 12 (f := .glo "_law_order") rfl)
  have g_law_given := He.glo_ok X G (c.fact 13 (f := .glo "_law_given") rfl)
  have g_law_graph := He.glo_ok X G (c.fact 14 (f := .glo "_law_graph") rfl)
  have g_law_all_pairs := He.glo_ok X G (c.fact 15 (f := .glo "_law_all_pairs") rfl)
  have g_law_away := He.glo_ok X G (c.fact 16 (f := .glo "_law_away") rfl)
  have g_law_refused := He.glo_ok X G (c.fact 17 (f := .glo "_law_refused") rfl)
  have g_law_leads := He.glo_ok X G (c.fact 18 (f := .glo "_law_leads") rfl)
  have g_law_first := He.glo_ok X G (c.fact 19 (f := .glo "_law_first") rfl)
  have g_law_orders := He.glo_ok X G (c.fact 20 (f := .glo "_law_orders") rfl)
  have g_law_count := He.glo_ok X G (c.fact 21 (f := .glo "_law_count") rfl)
  have g_law_all_ways := He.glo_ok X G (c.fact 22 (f := .glo "_law_all_ways") rfl)
  have g_law := He.glo_ok X G (c.fact 23 (f := .glo "law") rfl)
  have g_Graph := He.glo_ok X G (c.fact 24 (f := .glo "Graph") rfl)
  have g_BadOrientation := He.glo_ok X G (c.fact 25 (f := .glo "BadOrientation") rfl)
  have g_ChipError := He.glo_ok X G (c.fact 26 (f := .glo "ChipError") rfl)
  have f_len := He.free_ok X G (c.fact 27 (f := .free "len") rfl)
  have f_int := He.free_ok X G (c.fact 28 (f := .free "int") rfl)
  have f_list := He.free_ok X G (c.fact 29 (f := .free "list") rfl)
  have f_tuple := He.free_ok X G (c.fact 30 (f := .free "tuple") rfl)
  have f_range := He.free_ok X G (c.fact 31 (f := .free "range") rfl)
  have f_isinstance := He.free_ok X G (c.fact 32 (f := .free "isinstance") rfl)
  have f_bool := He.free_ok X G (c.fact 33 (f := .free "bool") rfl)
  have f_str := He.free_ok X G (c.fact 34 (f := .free "str") rfl)
  have f_all := He.free_ok X G (c.fact 35 (f := .free "all") rfl)
  have f_any := He.free_ok X G (c.fact 36 (f := .free "any") rfl)
  have f_min := He.free_ok X G (c.fact 37 (f := .free "min") rfl)
  have f_max := He.free_ok X G (c.fact 38 (f := .free "max") rfl)
  have f_sum := He.free_ok X G (c.fact 39 (f := .free "sum") rfl)
  have f_enumerate := He.free_ok X G (c.fact 40 (f := .free "enumerate") rfl)
  have f_zip := He.free_ok X G (c.fact 41 (f := .free "zip") rfl)
  have f_sorted := He.free_ok X G (c.fact 42 (f := .free "sorted") rfl)
  have f_repr := He.free_ok X G (c.fact 43 (f := .free "repr") rfl)
  have f_super := He.free_ok X G (c.fact 44 (f := .free "super") rfl)
  have i_MOST_PLACES := He.int_ok X G (c.fact 45 (f := .int "MOST_PLACES" 64) rfl)
  have i_MOST_EDGES := He.int_ok X G (c.fact 46 (f := .int "MOST_EDGES" 400) rfl)
  have c_Graph := He.cls_ok (c.fact 47 (f := .cls "Graph") rfl)
  have k_Graph := He.mkr_ok (c.fact 48 (f := .mkr "Graph") rfl)
  have n_Graph_n := He.noat_ok (c.fact 49 (f := .noat "Graph" "n") rfl)
  have n_Graph_edges := He.noat_ok (c.fact 50 (f := .noat "Graph" "edges") rfl)
  have n_Graph_genus := He.noat_ok (c.fact 51 (f := .noat "Graph" "genus") rfl)
  have n_Graph_kept := He.noat_ok (c.fact 52 (f := .noat "Graph" "kept") rfl)
  have x_BadOrientation_BadOrientation := He.exm_ok (c.fact 53 (f := .exm "BadOrientation" "BadOrientation" true) rfl)
  have D_told_orientation : DefAt K mg "told_orientation" "told_orientation" (top 11) := by
    obtain ⟨fd, F⟩ := c.def_ 0 (d := d_told_orientation) rfl
    exact ⟨_, fd, He5.fun_of F, g_told_orientation⟩
  have D_ordered : DefAt K mg "ordered" "ordered" (top 12) := by
    obtain ⟨fd, F⟩ := c.def_ 1 (d := d_ordered) rfl
    exact ⟨_, fd, He5.fun_of F, g_ordered⟩
  have D_is_acyclic : DefAt K mg "is_acyclic" "is_acyclic" (top 13) := by
    obtain ⟨fd, F⟩ := c.def_ 2 (d := d_is_acyclic) rfl
    exact ⟨_, fd, He5.fun_of F, g_is_acyclic⟩
  have D_sources : DefAt K mg "sources" "sources" (top 14) := by
    obtain ⟨fd, F⟩ := c.def_ 3 (d := d_sources) rfl
    exact ⟨_, fd, He5.fun_of F, g_sources⟩
  have D_is_whole : DefAt K mg "is_whole" "is_whole" (top 7) := by
    obtain ⟨fd, F⟩ := c.def_ 4 (d := d_is_whole) rfl
    exact ⟨_, fd, He5.fun_of F, g_is_whole⟩
  have D_edge_fault : DefAt K mg "edge_fault" "edge_fault" (top 8) := by
    obtain ⟨fd, F⟩ := c.def_ 5 (d := d_edge_fault) rfl
    exact ⟨_, fd, He5.fun_of F, g_edge_fault⟩
  have D_together : DefAt K mg "together" "together" (top 9) := by
    obtain ⟨fd, F⟩ := c.def_ 6 (d := d_together) rfl
    exact ⟨_, fd, He5.fun_of F, g_together⟩
  have D_law_pool : DefAt K mg "_law_pool" "_law_pool" (top 16) := by
    obtain ⟨fd, F⟩ := c.def_ 7 (d := d_law_pool) rfl
    exact ⟨_, fd, He5.fun_of F, g_law_pool⟩
  have D_law_take : DefAt K mg "_law_take" "_law_take" (top 17) := by
    obtain ⟨fd, F⟩ := c.def_ 8 (d := d_law_take) rfl
    exact ⟨_, fd, He5.fun_of F, g_law_take⟩
  have D_law_pick : DefAt K mg "_law_pick" "_law_pick" (top 18) := by
    obtain ⟨fd, F⟩ := c.def_ 9 (d := d_law_pick) rfl
    exact ⟨_, fd, He5.fun_of F, g_law_pick⟩
  have D_law_is_integer : DefAt K mg "_law_is_integer" "_law_is_integer" (top 19) := by
    obtain ⟨fd, F⟩ := c.def_ 10 (d := d_law_is_integer) rfl
    exact ⟨_, fd, He5.fun_of F, g_law_is_integer⟩
  have D_law_same : DefAt K mg "_law_same" "_law_same" (top 20) := by
    obtain ⟨fd, F⟩ := c.def_ 11 (d := d_law_same) rfl
    exact ⟨_, fd, He5.fun_of F, g_law_same⟩
  have D_law_order : DefAt K mg "_law_order" "_law_order" (top 21) := by
    obtain ⟨fd, F⟩ := c.def_ 12 (d := d_law_order) rfl
    exact ⟨_, fd, He5.fun_of F, g_law_order⟩
  have D_law_given : DefAt K mg "_law_given" "_law_given" (top 22) := by
    obtain ⟨fd, F⟩ := c.def_ 13 (d := d_law_given) rfl
    exact ⟨_, fd, He5.fun_of F, g_law_given⟩
  have D_law_graph : DefAt K mg "_law_graph" "_law_graph" (top 23) := by
    obtain ⟨fd, F⟩ := c.def_ 14 (d := d_law_graph) rfl
    exact ⟨_, fd, He5.fun_of F, g_law_graph⟩
  have D_law_all_pairs : DefAt K mg "_law_all_pairs" "_law_all_pairs" (top 24) := by
    obtain ⟨fd, F⟩ := c.def_ 15 (d := d_law_all_pairs) rfl
    exact ⟨_, fd, He5.fun_of F, g_law_all_pairs⟩
  have D_law_away : DefAt K mg "_law_away" "_law_away" (top 25) := by
    obtain ⟨fd, F⟩ := c.def_ 16 (d := d_law_away) rfl
    exact ⟨_, fd, He5.fun_of F, g_law_away⟩
  have D_law_refused : DefAt K mg "_law_refused" "_law_refused" (top 26) := by
    obtain ⟨fd, F⟩ := c.def_ 17 (d := d_law_refused) rfl
    exact ⟨_, fd, He5.fun_of F, g_law_refused⟩
  have D_law_leads : DefAt K mg "_law_leads" "_law_leads" (top 27) := by
    obtain ⟨fd, F⟩ := c.def_ 18 (d := d_law_leads) rfl
    exact ⟨_, fd, He5.fun_of F, g_law_leads⟩
  have D_law_first : DefAt K mg "_law_first" "_law_first" (top 28) := by
    obtain ⟨fd, F⟩ := c.def_ 19 (d := d_law_first) rfl
    exact ⟨_, fd, He5.fun_of F, g_law_first⟩
  have D_law_orders : DefAt K mg "_law_orders" "_law_orders" (top 29) := by
    obtain ⟨fd, F⟩ := c.def_ 20 (d := d_law_orders) rfl
    exact ⟨_, fd, He5.fun_of F, g_law_orders⟩
  have D_law_count : DefAt K mg "_law_count" "_law_count" (top 30) := by
    obtain ⟨fd, F⟩ := c.def_ 21 (d := d_law_count) rfl
    exact ⟨_, fd, He5.fun_of F, g_law_count⟩
  have D_law_all_ways : DefAt K mg "_law_all_ways" "_law_all_ways" (top 31) := by
    obtain ⟨fd, F⟩ := c.def_ 22 (d := d_law_all_ways) rfl
    exact ⟨_, fd, He5.fun_of F, g_law_all_ways⟩
  have D_law : DefAt K mg "law" "law" (top 32) := by
    obtain ⟨fd, F⟩ := c.def_ 23 (d := d_law) rfl
    exact ⟨_, fd, He5.fun_of F, g_law⟩
  have D_Graph___init__ : MkAt K mg "Graph" (He.ga K "Graph") "__init__" "Graph.__init__" (inClass (top 10) 0) := by
    obtain ⟨fd, F⟩ := c.def_ 24 (d := d_Graph___init__) rfl
    exact ⟨_, fd, He5.fun_of F, k_Graph, g_Graph⟩
  unfold mine at hm
  simp only [Bool.and_eq_true] at hm
  obtain ⟨m1, m2⟩ := hm
  have e0 : SupX.fnC K (He.ma K (He.ga K "BadOrientation") "__init__") = some ((("__init__" : Str)), ("BadOrientation.__init__" : Str), defArgs sB, FuncBody.stmts (defBody sB), defScope sB, mainGlobals, builtinsNs) := Option.some.inj (congrArg (fun l : List SupX.FnC => l[0]?) hsv)
  obtain ⟨p1, p2, q1, q2, q3, q4, q5, q6, q7, q8, q9, q10, a1, a2, a3, a4⟩ := formB
  rw [a1, a2, a3] at e0
  have TB : SupX.SupTxt PP K mg "BadOrientation" _ _ := SupX.sup_ok g_BadOrientation f_super noSuper e0 a4 m1
  have EC : ErrO K mg (He.ga K "ChipError") (He.ga K "BadOrientation") := ⟨g_ChipError, x_BadOrientation_BadOrientation, of_decide_eq_true m2⟩
  have B : Bt mg := ⟨f_len, f_int, f_list, f_tuple, f_range, f_isinstance, f_bool, f_str, f_all, f_any, f_min, f_max, f_sum, f_enumerate, f_zip, f_sorted, f_repr⟩
  have GC : GraphC K (He.ga K "Graph") := ⟨c_Graph, n_Graph_n, n_Graph_edges, n_Graph_genus, n_Graph_kept⟩
  have h_take := ok_take (P := PP) (w := w) (base := base) D_law_take B
  have h_pick := ok_pick D_law_pick B h_take
  have h_isi := ok_is_integer (P := PP) (w := w) (base := base) D_law_is_integer B
  have h_same := ok_same D_law_same B h_isi 3
  have h_order := ok_order D_law_order B h_take
  have h_orderF := ok_orderF (K := K) D_law_order B h_take
  have h_given := ok_given D_law_given B h_take
  have h_pairs := ok_all_pairs (P := PP) (w := w) (base := base) (K := K) D_law_all_pairs B
  have h_graph := ok_graph D_law_graph B h_take h_pick h_order h_pairs
  have h_wg := ok_is_whole (P := PP) (w := w) (base := base) D_is_whole B
  have h_ef := ok_edge_fault D_edge_fault B h_wg
  have h_tg := ok_together (P := PP) (w := w) (base := base) D_together B
  have mk_G := ok_Graph D_Graph___init__ B GC h_wg h_ef h_tg i_MOST_PLACES i_MOST_EDGES
  have h_ori := ok_told_orientation D_told_orientation B GC TB h_wg
  have h_ord := ok_ordered D_ordered B GC h_ori
  have h_acy := ok_is_acyclic D_is_acyclic B h_ord
  have h_src := ok_sources D_sources B GC h_ori
  have h_pool := ok_pool (P := PP) (w := w) (base := base) (K := K) D_law_pool B
  have h_leads := ok_leads (P := PP) (w := w) (base := base) (K := K) D_law_leads B
  have h_away := ok_away D_law_away B h_orderF
  have h_first := ok_first (P := PP) (w := w) (base := base) (K := K) D_law_first B
  have h_orders := ok_orders (P := PP) (w := w) (base := base) (K := K) D_law_orders B 6
  have h_ways := ok_all_ways (P := PP) (w := w) (base := base) (K := K) D_law_all_ways B
  have h_count := ok_count (P := PP) (w := w) (base := base) (K := K) D_law_count B 10
  have h_ref := ok_refused D_law_refused B TB EC h_acy h_src h_ord
  exact ok_law D_law B h_pool h_take h_pick h_graph mk_G h_away h_leads h_first h_given h_acy.quiet h_src.quiet h_ord.quiet h_same h_orders h_ways h_count h_ref
end G3
open PySem PySem.W PySem.Calls PyProof.Rows
theorem PySem.Challenge.cw_chipsproved_k13_orientations_holds : PySem.Challenge.rw_chipsproved_k13_orientations.Holds := by
  w_on; o_law
  refine HandSHeadRun.head_any (r := OpenLaw.row PySem.Challenge.rw_chipsproved_k13_orientations) (q := view (OpenLaw.row PySem.Challenge.rw_chipsproved_k13_orientations).prog [32]) (H := G3.hk) (ob := G3.ob) (M := 20000) (loose := G3.loose) (d := HandSHeadRun.topDef (OpenLaw.row PySem.Challenge.rw_chipsproved_k13_orientations).prog 32) (kwd := []) G3.ob_eq
    (by kernel_rfl) (fun s => by kernel_rfl) G3.run (by kernel_rfl) (by kernel_rfl) (by kernel_rfl) (by rfl) (by first | assumption | decide +kernel) (by decide +kernel) ⟨rfl, rfl, rfl, rfl, rfl, by decide +kernel⟩ ?hw ?hc
  case hw => w_witness2
  case hc =>
    refine L2.walk_ofG (l := PySem.Challenge.rw_chipsproved_k13_orientations) (n := 63) (k := 12) (x := "script") (CX := L2.CX0) rfl (by decide) (by kernel_rfl) ⟨rfl, by decide, by decide⟩ ?F (fun _ _ _ _ z => z)
    intro w mg fa h Y G hmg0
    obtain ⟨K, KX, c⟩ := Y
    have hmg : mg ("law" : PySem.Str) = some (.ref fa) := by
      have e : (HandSHeadRun.topDef (OpenLaw.row PySem.Challenge.rw_chipsproved_k13_orientations).prog 32).name = ("law" : PySem.Str) := by kernel_rfl
      rw [← e]
      exact hmg0
    refine ⟨K, G3.spLaw K, KX, fun H a ns hl _ hS => ⟨a, ns, rfl, hS, Nat.le_trans hl (by decide), fun _ => rfl⟩, fun base _ _ => ?_⟩
    obtain ⟨f, fd, F, hm, _, hb⟩ := G3.facts (w := w) KX G c base
    rw [hmg] at hm
    cases hm
    exact ⟨fd, F, hb⟩

