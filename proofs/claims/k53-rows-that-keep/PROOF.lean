import PyProof.Rows.All
import Wide.All
import OpenK.AllK
import Wide.FinOn
import HandS.Base
import HandS.Call
import HandS.List
import HandS.Comp
import HandS.Ends
import HandS.Dict
import HandS.Iter
import HandS.Text
import HandS.Words
import HandS.WordsList
import HandS.IsInst
import HandS.Exc
import PyProof.Rows.SortShellAny
import HandS.Set
import HandS.SetFor
import HandS.Strs
import HandS.SortInts
import PyProof.SeqRoads2
import HandS.TryOnly
import HandS.WordsDict
import HandS.Finally
import HandS.Style
import HandS.More
import HandS.Conv
import HandS.Deep
import HandS.TupAny
import KE.SortData
import PyProof.SetRoads
import PyProof.ReprRoads
import KE.KDictZip
import HandS.WordsExc
import HandS.Sort
import KE.KDictSum
import HandS.ExcIs
import KE.KExcIs
import HandS.ExcInit
import HandS.ExcField
import PyProof.CallFns
import HandS.WideBits
import KE.KDictDisplayH
import KE.DataCmp
import KE.KxWritten
import PyProof.EnumMake
import PyProof.StrBlock2
import HandS.Wide
import KE.SortKeyHeap
import HandS.RaiseMore
import KE.KEqNest
import KE.DataMinMax
import HandS.ReplaceLit
import HandS.HeadHook3
import HandS.Flow
import KE.KIntText
import PySem.Challenge.RW_keyrooms_k53_rows_that_keep
set_option Elab.async false
set_option linter.all false
set_option maxRecDepth 100000
set_option maxHeartbeats 4000000
/-! layer Kr1 -/
namespace Kr
open PySem L2
/-! ## data in the abstract heap -/
/-- a dict's key as data -/
def KeyD : PyData → Key → Prop
  | .int i, .inl j => i = j
  | .str x, .inr y => x = y
  | _, _ => False
/-- an error of a class of the program's own, as data: its class's address, and what its field at holds, if it has one -/
def exK (C : Addr) (y : PyData) : List (PyData × PyData) := [(.none, .tuple [.int C, y])]
def noExK : List (PyData × PyData) → Bool
  | (.none, _) :: _ => false
  | _ => true
def noEx : PyData → Bool
  | .dict kvs => noExK kvs
  | _ => true
def ExP (C : Addr) (d : Option Addr) (a : Addr) : Heap → Prop := fun h => ∃ oe vs, h.get? a = some oe ∧ Zc (.ref C) d oe ∧ oe.data = .fields vs
def AtOk (H : Hp) (y : PyData) (d : Option Addr) : Prop := (y = .list [] ∧ d = none) ∨ ∃ dd i w, y = .list [i] ∧ d = some dd ∧ H dd = some (.xd [(("at" : Str), w)]) ∧ ((i = .none ∧ w = .non) ∨ ∃ n, i = .int n ∧ w = .int n)
def ExV (H : Hp) (kvs : List (PyData × PyData)) (v : V) : Prop := ∃ a C d y, kvs = exK C y ∧ v = .ref a ∧ H a = some (.ext (ExP C d a)) ∧ AtOk H y d
theorem AtOk.mono {H H' : Hp} {y : PyData} {d : Option Addr} (s : Same H H') (h : AtOk H y d) : AtOk H' y d := by
  rcases h with h | ⟨dd, i, w, h1, h2, h3, h4⟩
  · exact .inl h
  · exact .inr ⟨dd, i, w, h1, h2, s _ _ h3, h4⟩
theorem ExV.mono {H H' : Hp} {kvs : List (PyData × PyData)} {v : V} (s : Same H H') (h : ExV H kvs v) : ExV H' kvs v := by
  obtain ⟨a, C, d, y, h1, h2, h3, h4⟩ := h
  exact ⟨a, C, d, y, h1, h2, s _ _ h3, h4.mono s⟩
theorem ExV.no {H : Hp} {kvs : List (PyData × PyData)} {v : V} (h : ExV H kvs v) (n : noExK kvs = true) : False := by
  obtain ⟨a, C, d, y, rfl, _⟩ := h
  cases n
mutual
def Da (H : Hp) : PyData → V → Prop
  | .none, v => v = .non
  | .bool b, v => v = .bl b
  | .int i, v => v = .int i
  | .str x, v => v = .str x
  | .list ds, v => ∃ a xs, v = .ref a ∧ H a = some (.lst xs) ∧ DaAll H ds xs
  | .tuple ds, v => ∃ a xs, v = .ref a ∧ H a = some (.tup xs) ∧ DaAll H ds xs
  | .dict kvs, v => (∃ a es, v = .ref a ∧ Rd H a (.dK es) ∧ DaKV H kvs es) ∨ ExV H kvs v
def DaAll (H : Hp) : List PyData → List V → Prop
  | [], vs => vs = []
  | d :: ds, vs => ∃ v r, vs = v :: r ∧ Da H d v ∧ DaAll H ds r
def DaKV (H : Hp) : List (PyData × PyData) → List (Key × V) → Prop
  | [], es => es = []
  | (k, d) :: kvs, es => ∃ k' v r, es = (k', v) :: r ∧ KeyD k k' ∧ Da H d v ∧ DaKV H kvs r
end
mutual
theorem Da.mono {H H' : Hp} (s : Same H H') : ∀ {d : PyData} {v : V}, Da H d v → Da H' d v
  | .none, _, h => h
  | .bool _, _, h => h
  | .int _, _, h => h
  | .str _, _, h => h
  | .list ds, v, h => by
    obtain ⟨a, xs, e, h1, h2⟩ := (show ∃ a xs, v = .ref a ∧ H a = some (.lst xs) ∧ DaAll H ds xs from h)
    exact (show ∃ a xs, v = .ref a ∧ H' a = some (.lst xs) ∧ DaAll H' ds xs from ⟨a, xs, e, s _ _ h1, DaAll.mono s h2⟩)
  | .tuple ds, v, h => by
    obtain ⟨a, xs, e, h1, h2⟩ := (show ∃ a xs, v = .ref a ∧ H a = some (.tup xs) ∧ DaAll H ds xs from h)
    exact (show ∃ a xs, v = .ref a ∧ H' a = some (.tup xs) ∧ DaAll H' ds xs from ⟨a, xs, e, s _ _ h1, DaAll.mono s h2⟩)
  | .dict kvs, v, h => by
    rcases (show (∃ a es, v = .ref a ∧ Rd H a (.dK es) ∧ DaKV H kvs es) ∨ ExV H kvs v from h) with ⟨a, xs, e, h1, h2⟩ | hx
    · exact (show (∃ a es, v = .ref a ∧ Rd H' a (.dK es) ∧ DaKV H' kvs es) ∨ ExV H' kvs v from .inl ⟨a, xs, e, h1.elim (fun z => .inl (s _ _ z)) (fun ⟨o, z⟩ => .inr ⟨o, s _ _ z⟩), DaKV.mono s h2⟩)
    · exact (show (∃ a es, v = .ref a ∧ Rd H' a (.dK es) ∧ DaKV H' kvs es) ∨ ExV H' kvs v from .inr (hx.mono s))
theorem DaAll.mono {H H' : Hp} (s : Same H H') : ∀ {ds : List PyData} {vs : List V}, DaAll H ds vs → DaAll H' ds vs
  | [], _, h => h
  | d :: ds, vs, h => by
    obtain ⟨v, r, e, h1, h2⟩ := (show ∃ v r, vs = v :: r ∧ Da H d v ∧ DaAll H ds r from h)
    exact (show ∃ v r, vs = v :: r ∧ Da H' d v ∧ DaAll H' ds r from ⟨v, r, e, h1.mono s, DaAll.mono s h2⟩)
theorem DaKV.mono {H H' : Hp} (s : Same H H') : ∀ {kvs : List (PyData × PyData)} {es : List (Key × V)}, DaKV H kvs es → DaKV H' kvs es
  | [], _, h => h
  | (k, d) :: kvs, es, h => by
    obtain ⟨k', v, r, e, h0, h1, h2⟩ := (show ∃ k' v r, es = (k', v) :: r ∧ KeyD k k' ∧ Da H d v ∧ DaKV H kvs r from h)
    exact (show ∃ k' v r, es = (k', v) :: r ∧ KeyD k k' ∧ Da H' d v ∧ DaKV H' kvs r from ⟨k', v, r, e, h0, h1.mono s, DaKV.mono s h2⟩)
end
mutual
theorem Da.dp {K : PySem.W.Frag} {H : Hp} : ∀ {d : PyData} {v : V}, Da H d v → d.canLay0 = true → Dp K H v d
  | .none, v, h, _ => by obtain rfl : v = .non := h; exact .non
  | .bool b, v, h, _ => by obtain rfl : v = .bl b := h; exact .bl b
  | .int i, v, h, _ => by obtain rfl : v = .int i := h; exact .int i
  | .str x, v, h, _ => by obtain rfl : v = .str x := h; exact .str x
  | .list ds, v, h, c => by
    obtain ⟨a, xs, rfl, h1, h2⟩ := (show ∃ a xs, v = .ref a ∧ H a = some (.lst xs) ∧ DaAll H ds xs from h)
    exact .lst (SqL.of h1) (DaAll.dp h2 (by simpa [PyData.canLay0] using c))
  | .tuple ds, v, h, c => by
    obtain ⟨a, xs, rfl, h1, h2⟩ := (show ∃ a xs, v = .ref a ∧ H a = some (.tup xs) ∧ DaAll H ds xs from h)
    exact .tup (SqT.of h1) (DaAll.dp h2 (by simpa [PyData.canLay0] using c))
  | .dict _, _, h, c => by simp [PyData.canLay0] at c
theorem DaAll.dp {K : PySem.W.Frag} {H : Hp} : ∀ {ds : List PyData} {vs : List V}, DaAll H ds vs → PyData.canLayAll0 ds = true → DpAll K H vs ds
  | [], vs, h, _ => by obtain rfl : vs = [] := h; exact .nil
  | d :: ds, vs, h, c => by
    obtain ⟨v, r, rfl, h1, h2⟩ := (show ∃ v r, vs = v :: r ∧ Da H d v ∧ DaAll H ds r from h)
    have c' : d.canLay0 = true ∧ PyData.canLayAll0 ds = true := by simpa [PyData.canLayAll0] using c
    exact .cons (h1.dp c'.1) (DaAll.dp h2 c'.2)
end
theorem Da.dict {H : Hp} {kvs : List (PyData × PyData)} {v : V} (h : Da H (.dict kvs) v) (n : noExK kvs = true) : ∃ a es, v = .ref a ∧ Rd H a (.dK es) ∧ DaKV H kvs es := by
  rcases (show (∃ a es, v = .ref a ∧ Rd H a (.dK es) ∧ DaKV H kvs es) ∨ ExV H kvs v from h) with h | h
  · exact h
  · exact (h.no n).elim
theorem Da.ofDict {H : Hp} {kvs : List (PyData × PyData)} {a : Addr} {es : List (Key × V)} (h1 : Rd H a (.dK es)) (h2 : DaKV H kvs es) : Da H (.dict kvs) (.ref a) := (show (∃ b es, V.ref a = .ref b ∧ Rd H b (.dK es) ∧ DaKV H kvs es) ∨ ExV H kvs (.ref a) from .inl ⟨a, es, rfl, h1, h2⟩)
section
variable {H : Hp}
theorem daAll_nil : DaAll H [] [] := rfl
theorem daAll_cons {d : PyData} {ds : List PyData} {v : V} {vs : List V} (h : Da H d v) (t : DaAll H ds vs) : DaAll H (d :: ds) (v :: vs) := ⟨v, vs, rfl, h, t⟩
theorem DaAll.length : ∀ {ds : List PyData} {vs : List V}, DaAll H ds vs → vs.length = ds.length
  | [], _, h => by obtain rfl := (show _ = [] from h); rfl
  | d :: ds, _, h => by
    obtain ⟨v, r, rfl, _, h2⟩ := (show ∃ v r, _ = v :: r ∧ Da H d v ∧ DaAll H ds r from h)
    simp [DaAll.length h2]
theorem DaAll.get : ∀ {ds : List PyData} {vs : List V} {i : Nat} {d : PyData}, DaAll H ds vs → ds[i]? = some d → ∃ v, vs[i]? = some v ∧ Da H d v
  | [], _, _, _, _, e => by simp at e
  | d0 :: ds, _, i, d, h, e => by
    obtain ⟨v, r, rfl, h1, h2⟩ := (show ∃ v r, _ = v :: r ∧ Da H d0 v ∧ DaAll H ds r from h)
    cases i with
    | zero => simp at e; subst e; exact ⟨v, rfl, h1⟩
    | succ i => simpa using DaAll.get h2 (by simpa using e)
theorem DaAll.append : ∀ {ds es : List PyData} {vs us : List V}, DaAll H ds vs → DaAll H es us → DaAll H (ds ++ es) (vs ++ us)
  | [], _, _, _, h, h' => by obtain rfl := (show _ = [] from h); exact h'
  | d0 :: ds, _, _, _, h, h' => by
    obtain ⟨v0, r, rfl, h1, h2⟩ := (show ∃ v r, _ = v :: r ∧ Da H d0 v ∧ DaAll H ds r from h)
    exact daAll_cons h1 (DaAll.append h2 h')
theorem DaAll.snoc {ds : List PyData} {vs : List V} {d : PyData} {v : V} (h : DaAll H ds vs) (h' : Da H d v) : DaAll H (ds ++ [d]) (vs ++ [v]) := h.append (daAll_cons h' daAll_nil)
theorem DaAll.take : ∀ {ds : List PyData} {vs : List V} (n : Nat), DaAll H ds vs → DaAll H (ds.take n) (vs.take n)
  | [], _, n, h => by obtain rfl := (show _ = [] from h); simp [daAll_nil]
  | d0 :: ds, _, n, h => by
    obtain ⟨v0, r, rfl, h1, h2⟩ := (show ∃ v r, _ = v :: r ∧ Da H d0 v ∧ DaAll H ds r from h)
    cases n with
    | zero => exact daAll_nil
    | succ n => exact daAll_cons h1 (DaAll.take n h2)
theorem DaAll.drop : ∀ {ds : List PyData} {vs : List V} (n : Nat), DaAll H ds vs → DaAll H (ds.drop n) (vs.drop n)
  | [], _, n, h => by obtain rfl := (show _ = [] from h); simp [daAll_nil]
  | d0 :: ds, _, n, h => by
    obtain ⟨v0, r, rfl, h1, h2⟩ := (show ∃ v r, _ = v :: r ∧ Da H d0 v ∧ DaAll H ds r from h)
    cases n with
    | zero => exact daAll_cons h1 h2
    | succ n => exact DaAll.drop n h2
theorem daAll_strs : ∀ xs : List Str, DaAll H (xs.map .str) (xs.map V.str)
  | [] => daAll_nil
  | x :: xs => daAll_cons (show V.str x = V.str x from rfl) (daAll_strs xs)
theorem daAll_ints : ∀ xs : List Int, DaAll H (xs.map .int) (xs.map V.int)
  | [] => daAll_nil
  | x :: xs => daAll_cons (show V.int x = V.int x from rfl) (daAll_ints xs)
theorem DaAll.strs : ∀ {xs : List Str} {vs : List V}, DaAll H (xs.map .str) vs → vs = xs.map V.str
  | [], _, h => h
  | x :: xs, vs, h => by
    obtain ⟨v, r, rfl, h1, h2⟩ := (show ∃ v r, _ = v :: r ∧ Da H (.str x) v ∧ DaAll H (xs.map .str) r from h)
    obtain rfl : v = .str x := h1
    rw [DaAll.strs h2]; rfl
theorem DaAll.ints : ∀ {xs : List Int} {vs : List V}, DaAll H (xs.map .int) vs → vs = xs.map V.int
  | [], _, h => h
  | x :: xs, vs, h => by
    obtain ⟨v, r, rfl, h1, h2⟩ := (show ∃ v r, _ = v :: r ∧ Da H (.int x) v ∧ DaAll H (xs.map .int) r from h)
    obtain rfl : v = .int x := h1
    rw [DaAll.ints h2]; rfl
end
/-! ## heaps that grow: F what is told for good, H all -/
structure Gr (F H F2 H2 : Hp) : Prop where
  ff : Same F F2
  fh : Same F2 H2
  hh : Same H H2
  new : ∀ b, F b = none → H b ≠ none → F2 b = none
section
variable {F H F1 H1 F2 H2 F3 H3 : Hp} {p : Addr} {o : HO}
theorem Gr.refl (h : Same F H) : Gr F H F H := ⟨Same.refl _, h, Same.refl _, fun _ e _ => e⟩
theorem Gr.trans (a : Gr F H F1 H1) (b : Gr F1 H1 F2 H2) : Gr F H F2 H2 :=
  ⟨a.ff.trans b.ff, b.fh, a.hh.trans b.hh, fun q e n => b.new q (a.new q e n) (fun z => n (a.hh.free z))⟩
theorem same_upd (h : H p = none) : Same H (upd H p o) := fun b x e => by
  rw [upd_ne (ne_of_none e h)]
  exact e
theorem same_mut (s : Same F H) (h : F p = none) : Same F (upd H p o) := fun b x e => by
  rw [upd_ne (ne_of_none e h)]
  exact s _ _ e
theorem same_both (s : Same F H) : Same (upd F p o) (upd H p o) := fun b x e => by
  by_cases hb : b = p
  · subst hb; rw [upd_same] at e ⊢; exact e
  · rw [upd_ne hb] at e ⊢; exact s _ _ e
/-- a new object that stays open -/
theorem Gr.open' (g : Gr F H F1 H1) (h : H1 p = none) : Gr F H F1 (upd H1 p o) :=
  ⟨g.ff, same_mut g.fh (g.fh.free h), g.hh.trans (same_upd h), g.new⟩
/-- a new object that is told for good -/
theorem Gr.shut (g : Gr F H F1 H1) (h : H1 p = none) : Gr F H (upd F1 p o) (upd H1 p o) :=
  ⟨g.ff.trans (same_upd (g.fh.free h)), same_both g.fh, g.hh.trans (same_upd h), fun b e n => by
    have hb : b ≠ p := fun z => by subst z; exact n (g.hh.free h)
    rw [upd_ne hb]; exact g.new b e n⟩
theorem Gr.f0 (g : Gr F H F1 H1) (h : F p = none) (hH : H p = some o) : F1 p = none := g.new p h (by rw [hH]; exact fun z => nomatch z)
end
/-! ## what running a piece of text wants -/
section
variable (X : Cx)
def WE (e : Expr) (σ : St) (H : Hp) (Q : VK) : Prop := ∀ (pins : List (Addr × Obj)) (s : Shared), Inv X pins σ H s → wpAny (model X.prog X.w) X.A (eval e X.env) (EP X pins σ Q) X.xe s
def WT (e : Expr) (σ : St) (H : Hp) (Q : Bool → Hp → Prop) : Prop := ∀ (pins : List (Addr × Obj)) (s : Shared), Inv X pins σ H s → wpAny (model X.prog X.w) X.A (isTrue e X.env (eval e X.env)) (TP X pins σ Q) X.xe s
def WW (e : Expr) (σ : St) (H : Hp) (Q : Bool → Hp → Prop) : Prop := ∀ (whole : Sem Value) (pins : List (Addr × Obj)) (s : Shared), Inv X pins σ H s → wpAny (model X.prog X.w) X.A (isTrue e X.env whole) (TP X pins σ Q) X.xe s
def WA (es : List Expr) (σ : St) (H : Hp) (Q : List V → Hp → Prop) : Prop := ∀ (pos : Pos) (pins : List (Addr × Obj)) (s : Shared), Inv X pins σ H s → wpAny (model X.prog X.w) X.A (spliced (backTo pos (starEach es X.env))) (AP X pins σ Q) X.xe s
def WS (st : Stmt) (D : Ends) (σ : St) (H : Hp) : Prop := ∀ (pins : List (Addr × Obj)) (s : Shared), Inv X pins σ H s → wpAny (model X.prog X.w) X.A (exec st X.env) (SP X pins D) X.xe s
def WSs (st : List Stmt) (D : Ends) (σ : St) (H : Hp) : Prop := ∀ (pins : List (Addr × Obj)) (s : Shared), Inv X pins σ H s → wpAny (model X.prog X.w) X.A (execs st X.env) (SP X pins D) X.xe s
def WI (tg iter : Expr) (σ : St) (H : Hp) (R : It → Hp → Prop) : Prop := ∀ (pins : List (Addr × Obj)) (s : Shared), Inv X pins σ H s →
  wpAny (model X.prog X.w) X.A (eval iter X.env) (fun v s1 => wpAny (model X.prog X.w) X.A (pyIter v) (PIE X pins σ tg R) X.xe s1) X.xe s
end
section
variable {X : Cx}
theorem pe_we {e : Expr} : PE X e (WE X e) := ⟨fun pins s σ H Q I h => h pins s I⟩
theorem pt_wt {e : Expr} : PT X e (WT X e) := ⟨fun pins s σ H Q I h => h pins s I⟩
theorem pw_ww {e : Expr} : PW X e (WW X e) := ⟨fun whole pins s σ H Q I h => h whole pins s I⟩
theorem pa_wa {es : List Expr} : PA X es (WA X es) := ⟨fun pos pins s σ H Q I h => h pos pins s I⟩
theorem ps_ws {st : Stmt} : PS X st (WS X st) := ⟨fun pins s σ H D I h => h pins s I⟩
theorem pss_wss {st : List Stmt} : PSs X st (WSs X st) := ⟨fun pins s σ H D I h => h pins s I⟩
theorem pi_wi {tg iter : Expr} : PI X tg iter (WI X tg iter) := ⟨fun pins s σ H R I h => h pins s I⟩
theorem we_of {e : Expr} {t : TE} {σ : St} {H : Hp} {Q : VK} (h : PE X e t) (q : t σ H Q) : WE X e σ H Q := fun pins s I => h.run pins s σ H Q I q
theorem wt_of {e : Expr} {t : TT} {σ : St} {H : Hp} {Q : Bool → Hp → Prop} (h : PT X e t) (q : t σ H Q) : WT X e σ H Q := fun pins s I => h.run pins s σ H Q I q
theorem ww_of {e : Expr} {t : TT} {σ : St} {H : Hp} {Q : Bool → Hp → Prop} (h : PW X e t) (q : t σ H Q) : WW X e σ H Q := fun whole pins s I => h.run whole pins s σ H Q I q
theorem wa_of {es : List Expr} {t : TA} {σ : St} {H : Hp} {Q : List V → Hp → Prop} (h : PA X es t) (q : t σ H Q) : WA X es σ H Q := fun pos pins s I => h.run pos pins s σ H Q I q
theorem ws_of {st : Stmt} {t : TS} {σ : St} {H : Hp} {D : Ends} (h : PS X st t) (q : t D σ H) : WS X st D σ H := fun pins s I => h.run pins s σ H D I q
theorem wss_of {st : List Stmt} {t : TS} {σ : St} {H : Hp} {D : Ends} (h : PSs X st t) (q : t D σ H) : WSs X st D σ H := fun pins s I => h.run pins s σ H D I q
theorem wi_of {tg iter : Expr} {t : TI} {σ : St} {H : Hp} {R : It → Hp → Prop} (h : PI X tg iter t) (q : t σ H R) : WI X tg iter σ H R := fun pins s I => h.run pins s σ H R I q
theorem WE.imp {e : Expr} {σ : St} {H : Hp} {Q Q' : VK} (h : WE X e σ H Q) (q : ∀ v H', Q v H' → Q' v H') : WE X e σ H Q' := fun pins s I => thn (h pins s I) fun u s' ⟨v, H', I', r, k⟩ => ⟨v, H', I', r, q v H' k⟩
theorem WT.imp {e : Expr} {σ : St} {H : Hp} {Q Q' : Bool → Hp → Prop} (h : WT X e σ H Q) (q : ∀ v H', Q v H' → Q' v H') : WT X e σ H Q' := fun pins s I => thn (h pins s I) fun u s' ⟨H', I', k⟩ => ⟨H', I', q _ H' k⟩
end
/-! ## expressions that tell data -/
section
variable (X : Cx)
def DE (e : Expr) (σ : St) (F H : Hp) (d : PyData) : Prop := ∀ F1 H1, Gr F H F1 H1 → ∀ Q : VK, (∀ v F2 H2, Gr F1 H1 F2 H2 → Da F2 d v → Q v H2) → WE X e σ H1 Q
def DT (e : Expr) (σ : St) (F H : Hp) (b : Bool) : Prop := ∀ F1 H1, Gr F H F1 H1 → ∀ Q : Bool → Hp → Prop, (∀ F2 H2, Gr F1 H1 F2 H2 → Q b H2) → WT X e σ H1 Q
def DL (es : List Expr) (σ : St) (F H : Hp) (ds : List PyData) : Prop := ∀ F1 H1, Gr F H F1 H1 → ∀ Q : List V → Hp → Prop, (∀ vs F2 H2, Gr F1 H1 F2 H2 → DaAll F2 ds vs → Q vs H2) → WA X es σ H1 Q
/-- a value that is known -/
def VE (e : Expr) (σ : St) (F H : Hp) (v : V) : Prop := ∀ F1 H1, Gr F H F1 H1 → ∀ Q : VK, (∀ F2 H2, Gr F1 H1 F2 H2 → Q v H2) → WE X e σ H1 Q
end
section
variable {X : Cx} {σ : St} {F H : Hp} {e a b : Expr} {es : List Expr} {d d1 d2 : PyData} {ds : List PyData} {v : V} {i j : Int} {pos p : Pos} {x : Str}
theorem DE.mono {F' H' : Hp} (g : Gr F H F' H') (h : DE X e σ F H d) : DE X e σ F' H' d := fun F1 H1 g1 => h F1 H1 (g.trans g1)
theorem DT.mono {F' H' : Hp} {c : Bool} (g : Gr F H F' H') (h : DT X e σ F H c) : DT X e σ F' H' c := fun F1 H1 g1 => h F1 H1 (g.trans g1)
theorem VE.mono {F' H' : Hp} (g : Gr F H F' H') (h : VE X e σ F H v) : VE X e σ F' H' v := fun F1 H1 g1 => h F1 H1 (g.trans g1)
theorem DE.go (h : DE X e σ F H d) (s : Same F H) {Q : VK} (q : ∀ v F2 H2, Gr F H F2 H2 → Da F2 d v → Q v H2) : WE X e σ H Q := h F H (.refl s) Q q
theorem VE.go (h : VE X e σ F H v) (s : Same F H) {Q : VK} (q : ∀ F2 H2, Gr F H F2 H2 → Q v H2) : WE X e σ H Q := h F H (.refl s) Q q
theorem DT.go {c : Bool} (h : DT X e σ F H c) (s : Same F H) {Q : Bool → Hp → Prop} (q : ∀ F2 H2, Gr F H F2 H2 → Q c H2) : WT X e σ H Q := h F H (.refl s) Q q
end
end Kr
/-! layer Kr2 -/
namespace Kr
open PySem L2
section
variable {X : Cx} {σ : St} {F H : Hp} {e a b c : Expr} {es : List Expr} {d d1 d2 : PyData} {ds ds' : List PyData} {v : V} {i j k : Int} {pos p : Pos} {x y : Str} {bb cc : Bool}
structure Pl (X : Cx) (e : Expr) (es : List Expr) (pos : Pos) : Prop where
  he : starEach (e :: es) X.env = (false, eval e X.env) :: starEach es X.env
  hpl : (backTo pos (starEach es X.env)).any (·.1) = false
structure Nm (x : Str) : Prop where
  hn : x ≠ "__name__"
  hdb : (x == ("__debug__" : Str)) = false
/-! ### numbers -/
/-! ### equality -/
/-! ### truth -/
/-! ### argument lists, displays -/
/-! ### items -/
theorem DaAll.atI {H : Hp} {ds : List PyData} {vs : List V} {i : Int} {d : PyData} (h : DaAll H ds vs) (e : L2.atI ds i = some d) : ∃ v, L2.atI vs i = some v ∧ Da H d v := by
  unfold L2.atI at e ⊢
  rw [h.length]
  cases hj : ixN ds.length i with
  | none => rw [hj] at e; simp at e
  | some j =>
    rw [hj] at e
    exact h.get (by simpa using e)
/-! ### calls of what is built in -/
theorem daAll_rep {H : Hp} {vs : List V} (h : DaAll H ds vs) : ∀ n : Nat, DaAll H (List.replicate n ds).flatten (List.replicate n vs).flatten
  | 0 => daAll_nil
  | n + 1 => by
    rw [List.replicate_succ, List.replicate_succ, List.flatten_cons, List.flatten_cons]
    exact h.append (daAll_rep h n)
/-! ### isinstance -/
def tyName : PyData → String
  | .none => "NoneType"
  | .bool _ => "bool"
  | .int _ => "int"
  | .str _ => "str"
  | .list _ => "list"
  | .tuple _ => "tuple"
  | .dict _ => "dict"
theorem da_ty {K : PySem.W.Frag} {H : Hp} {d : PyData} {v : V} (h : Da H d v) (nx : noEx d = true) : TyX K H v (.type (tyName d)) := by
  cases d with
  | none => obtain rfl : v = .non := h; exact .base .non
  | bool c => obtain rfl : v = .bl c := h; exact .base (.bl c)
  | int c => obtain rfl : v = .int c := h; exact .base (.int c)
  | str c => obtain rfl : v = .str c := h; exact .base (.str c)
  | list ds => obtain ⟨p, vs, rfl, h1, h2⟩ := h; exact .base (.lst h1)
  | tuple ds => obtain ⟨p, vs, rfl, h1, h2⟩ := h; exact .base (.tup h1)
  | dict _ => obtain ⟨p, es, rfl, h1, h2⟩ := Da.dict h nx; exact h1.elim (fun z => .base (.dK z)) fun ⟨_, z⟩ => .fDict z
end
end Kr
/-! layer Kr3 -/
namespace Kr
open PySem L2
/-! ## targets -/
def WG (X : Cx) (tg : Expr) : TG := fun v σ H Q => ∀ (pins : List (Addr × Obj)) (s : Shared) (u : Value), Inv X pins σ H s → RelV v u →
  wpAny (model X.prog X.w) X.A (assign tg X.env u) (fun _ s' => ∃ σ' H', Inv X pins σ' H' s' ∧ Q σ' H') X.xe s
theorem pg_wg {X : Cx} {tg : Expr} : PG X tg (WG X tg) := ⟨fun pins s σ H v u Q I r h => h pins s u I r⟩
theorem wg_of {X : Cx} {tg : Expr} {t : TG} {v : V} {σ : St} {H : Hp} {Q : St → Hp → Prop} (h : PG X tg t) (q : t v σ H Q) : WG X tg v σ H Q := fun pins s u I r => h.run pins s σ H v u Q I r q
section
variable {X : Cx} {σ : St} {F H : Hp} {v : V} {Q : St → Hp → Prop} {x : Str} {pos : Pos} {t1 t2 t3 : Expr} {d1 d2 d3 : PyData}
theorem wg_name (i : Nat) (hN : X.N.Nodup) (q : Q (σ.set i (some v)) H) (hi : X.N[i]? = some x := by rfl) (hx : Loc X.env.scope x := by first | exact .inl rfl | exact .inr rfl) (hf : X.fn x = true ∨ X.env.scope.names.lookup x = some .local := by first | exact .inl rfl | exact .inr rfl) : WG X (.Name x pos) v σ H Q := wg_of (pg_name hN hi hx hf) q
end
/-! ## what is walked -/
def Walks (J : It) (F2 : Hp) (ds : List PyData) : Prop := ∀ F3 H3, Same F2 F3 → Same F3 H3 →
  (∀ (i : Nat) d, ds[i]? = some d → J.go i H3 ∧ ∀ x H4, J.yld i H3 x H4 → ∃ F4, Gr F3 H3 F4 H4 ∧ Da F4 d x) ∧ J.stop ds.length H3
/-- .. leaving the heap at each turn -/
def Walks0 (J : It) (F2 : Hp) (ds : List PyData) : Prop := ∀ F3 H3, Same F2 F3 → Same F3 H3 →
  (∀ (i : Nat) d, ds[i]? = some d → J.go i H3 ∧ ∀ x H4, J.yld i H3 x H4 → H4 = H3 ∧ Da F3 d x) ∧ J.stop ds.length H3
theorem Walks0.w {J : It} {F2 : Hp} {ds : List PyData} (h : Walks0 J F2 ds) : Walks J F2 ds := fun F3 H3 s1 s2 => ⟨fun i d e => ⟨((h F3 H3 s1 s2).1 i d e).1, fun x H4 y => by
  obtain ⟨rfl, hd⟩ := ((h F3 H3 s1 s2).1 i d e).2 x H4 y
  exact ⟨F3, .refl s2, hd⟩⟩, (h F3 H3 s1 s2).2⟩
theorem getV {H : Hp} {ds : List PyData} {xs : List V} {i : Nat} {d : PyData} {x : V} (h : DaAll H ds xs) (e : ds[i]? = some d) (ex : xs[i]? = some x) : Da H d x := by
  obtain ⟨v, hv, hd⟩ := h.get e
  rw [ex] at hv; cases hv; exact hd
section
variable {X : Cx} {tg e e2 : Expr} {σ : St} {F H : Hp} {ds es : List PyData} {i j : Int} {pos p : Pos} {x : Str}
def signsD (z : Str) : List PyData := z.cps.toList.map fun c => .str ⟨#[c]⟩
/-- the intsD from i on, below j -/
def intsD (i j : Int) : List PyData := (List.range (j - i).toNat).map fun k => .int (i + (k : Nat))
theorem intsD_length {i j : Int} : (intsD i j).length = (j - i).toNat := by simp [intsD]
theorem intsD_get {i j : Int} {k : Nat} {d : PyData} (h : (intsD i j)[k]? = some d) : d = .int (i + k) ∧ k < (j - i).toNat := by
  unfold intsD at h
  rw [List.getElem?_map] at h
  cases hc : (List.range (j - i).toNat)[k]? with
  | none => rw [hc] at h; simp at h
  | some c =>
    rw [hc] at h
    obtain ⟨hl, e⟩ := List.getElem?_eq_some_iff.mp hc
    simp at e hl
    subst e
    simp at h
    exact ⟨h.symm, by omega⟩
theorem walks_rng (i : Int) (n : Nat) {F2 : Hp} {j : Int} (hn : n = (j - i).toNat) : Walks0 (Itr i n) F2 (intsD i j) := fun F3 H3 s1 s2 => ⟨fun k d e => by
  obtain ⟨rfl, hk⟩ := intsD_get e
  exact ⟨by show k < n; omega, fun x H4 y => ⟨y.1, y.2⟩⟩, by show n ≤ _; rw [intsD_length]; omega⟩
def enumsD (ds : List PyData) : List PyData := ds.mapIdx fun k d => .tuple [.int (k : Nat), d]
end
/-! ## statements -/
section
variable {X : Cx} {σ : St} {F H : Hp} {e c : Expr} {d : PyData} {v : V} {D : Ends} {st : Stmt} {rest body orelse : List Stmt} {x : Str} {pos p : Pos} {b : Bool}
theorem ss_nil (q : D.nx σ H) : WSs X [] D σ H := wss_of pss_nil q
theorem ss_cons (h : WS X st { D with nx := WSs X rest D } σ H) : WSs X (st :: rest) D σ H := wss_of (pss_cons ps_ws pss_wss) h
theorem WS.nx {M N : St → Hp → Prop} (h : WS X st { D with nx := M } σ H) (k : ∀ σ' H', M σ' H' → N σ' H') : WS X st { D with nx := N } σ H := fun pins s I => thn (h pins s I) fun f s' q => by
  cases f with
  | next => obtain ⟨σ', H', I', q⟩ := q; exact ⟨σ', H', I', k σ' H' q⟩
  | brk => exact q
  | cont => exact q
  | ret u => exact q
theorem ss_one (h : WS X st D σ H) : WSs X [st] D σ H := wss_of (pss_one ps_ws) h
theorem ws_set (i : Nat) (hN : X.N.Nodup) (h : WE X e σ H fun v H1 => D.nx (σ.set i (some v)) H1) (hs : swapsWith e (some (.Name x p)) pos.line X.env = pure false := by rfl) (hi : X.N[i]? = some x := by rfl) (hx : Loc X.env.scope x := by first | exact .inl rfl | exact .inr rfl)
    (hf : X.fn x = true ∨ X.env.scope.names.lookup x = some .local := by first | exact .inl rfl | exact .inr rfl) : WS X (.Assign [.Name x p] e pos) D σ H := ws_of (ps_set hN hi hx pe_we hs hf) h
theorem ws_ret (h : WE X e σ H D.rt) : WS X (.Return (some e) pos) D σ H := ws_of (ps_ret pe_we) h
theorem ws_expr (h : WE X e σ H fun _ H1 => D.nx σ H1) (hs : swapsWith e none pos.line X.env = pure false := by rfl) : WS X (.Expr e pos) D σ H := ws_of (ps_expr pe_we hs) h
theorem ws_if (h : WT X c σ H fun b H1 => if b = true then WSs X body D σ H1 else WSs X orelse D σ H1) : WS X (.If c body orelse pos) D σ H := ws_of (ps_if pt_wt pss_wss pss_wss) h
theorem ws_asg {tg : Expr} (h : WE X e σ H fun v H1 => WG X tg v σ H1 D.nx) (hs : swapsWithSole [tg] e pos.line X.env = pure false := by rfl) (hw : swappedStores [tg] e X.env = pure none := by rfl)
    (h1 : (assignEach [tg] X.env).map (·.2) = [assign tg X.env] := by rfl) : WS X (.Assign [tg] e pos) D σ H := ws_of (ps_asg pe_we pg_wg hs hw h1) h
end
end Kr
/-! layer Kr4 -/
namespace Kr
open PySem L2
/-! ## comprehensions -/
theorem WG.mono {X : Cx} {tg : Expr} {v : V} {σ : St} {H : Hp} {Q Q' : St → Hp → Prop} (k : ∀ σ' H', Q σ' H' → Q' σ' H') (h : WG X tg v σ H Q) : WG X tg v σ H Q' := fun pins s u I r =>
  thn (h pins s u I r) fun _ s' ⟨σ', H', I', q⟩ => ⟨σ', H', I', k σ' H' q⟩
/-- a comprehension's block -/
abbrev Blk (X : Cx) (scope : Scope) (s : Shared) (H : Hp) (C : Addr) (cl : List (Str × Addr)) (fp : List Addr) : Cx := X.blk s H scope (compEnvC scope cl C X.env) fp
def gB (X : Cx) (scope : Scope) (tg : Expr) : TG := fun v σ H Q => ∀ s H0 C cl fp, WG (Blk X scope s H0 C cl fp) tg v σ H Q
def tB' (X : Cx) (scope : Scope) (c : Expr) : TT := fun σ H Q => ∀ s H0 C cl fp, WT (Blk X scope s H0 C cl fp) c σ H Q
def eB (X : Cx) (scope : Scope) (e : Expr) : TE := fun σ H Q => ∀ s H0 C cl fp, WE (Blk X scope s H0 C cl fp) e σ H Q
section
variable {α : Type} {X : Cx} {σ : St} {F H : Hp} {elt tg iter c : Expr} {scope : Scope} {pos spos py : Pos} {Dx : α → PyData} {xs : List α} {own : List (Str × Nat)} {y : Str}
/-- what a comprehension's element is made of: target, test, element -/
structure LcOk (X : Cx) (scope : Scope) (own : List (Str × Nat)) (iter : Expr) : Prop where
  calm : X.calm = true
  nd : X.N.Nodup
  ok : blkC X.N X.env.scope scope own = true
  fs : ∀ x, foldedSetIterable iter X.env x = pure x
theorem lcok {N ps : List Str} {sc : Scope} (S : FnScope N ps sc) (hb : blkC N sc scope own = true) (hc : X.calm = true := by rfl) (hN : X.N = N := by rfl) (hsc : X.env.scope = sc := by rfl) (fs : ∀ x, foldedSetIterable iter X.env x = pure x := by intro _; rfl) : LcOk X scope own iter :=
  ⟨hc, hN ▸ S.nd, by rw [hN, hsc]; exact hb, fs⟩
end
/-! ## defs -/
section
variable {P : Program} {w : World} {K : PySem.W.Frag} {mg : Str → Option Value} {base : Heap}
/-- a def's body -/
theorem okW {x qual : Str} {st : Stmt} {f : Addr} {fd : FuncData} {N ps : List Str} {k : Nat} {sp : Sp} (F : Fun K x qual st f fd) (S : FnScope N ps (defScope st)) (len : ∀ vs H Q E, sp vs H Q E → vs.length = ps.length)
    (hbody : ∀ (cdv : Value) (A : Around) (outer : List Env) (s : Shared) (H : Hp) (vs : List V) (Q : VK) (E : XK), Room k (A.deeper (PyProof.Rows.envOfC qual (defScope st) s.heap.objs.size f cdv)) → sp vs H Q E →
      WSs (cxOf CX0 P w K mg base N qual (defScope st) f cdv A outer s H E).nox (defBody st) { nx := fun _ H' => Q .non H', rt := Q } (start N vs) H) : FnOk P w K mg base CX0 (k + 1) f fd ps sp :=
  F.ok S len fun cdv A outer s H vs Q E hr h => ⟨_, pss_wss, hbody cdv A outer s H vs Q E hr h⟩
end
end Kr
/-! layer Kr5 -/
namespace Kr
open PySem L2
/-! ## texts in order -/
def leS (a b : Str) : Bool := !decide (b.cps.toList < a.cps.toList)
theorem leS_iff {a b : Str} : leS a b = true ↔ a.cps.toList ≤ b.cps.toList := by
  unfold leS
  rw [Bool.not_eq_true', decide_eq_false_iff_not]
  exact Iff.rfl
theorem str_ext {a b : Str} (h : a.cps.toList = b.cps.toList) : a = b := by
  cases a; cases b
  simp only at h
  congr
  exact Array.toList_inj.mp h
theorem leS_trans (a b c : Str) (h1 : leS a b = true) (h2 : leS b c = true) : leS a c = true := leS_iff.mpr (List.le_trans (leS_iff.mp h1) (leS_iff.mp h2))
theorem leS_total (a b : Str) : (leS a b || leS b a) = true := by
  rcases List.le_total a.cps.toList b.cps.toList with h | h
  · rw [leS_iff.mpr h]; rfl
  · rw [leS_iff.mpr h, Bool.or_true]
theorem leS_antisymm {a b : Str} (h1 : leS a b = true) (h2 : leS b a = true) : a = b := str_ext (List.le_antisymm (leS_iff.mp h1) (leS_iff.mp h2))
/-- sorted(xs) -/
def srt (xs : List Str) : List Str := xs.mergeSort leS
theorem srt_perm (xs : List Str) : (srt xs).Perm xs := List.mergeSort_perm xs leS
theorem srt_sorted (xs : List Str) : (srt xs).Pairwise (fun a b => leS a b = true) := List.pairwise_mergeSort leS_trans leS_total xs
theorem mem_srt {x : Str} {xs : List Str} : x ∈ srt xs ↔ x ∈ xs := (srt_perm xs).mem_iff
theorem sorted_unique : ∀ {xs ys : List Str}, xs.Perm ys → xs.Pairwise (fun a b => leS a b = true) → ys.Pairwise (fun a b => leS a b = true) → xs = ys
  | [], ys, p, _, _ => (List.nil_perm.mp p).symm
  | x :: xs, [], p, _, _ => by simpa using p.length_eq
  | x :: xs, y :: ys, p, h1, h2 => by
    have e : x = y := by
      have hx : x ∈ y :: ys := p.mem_iff.mp List.mem_cons_self
      have hy : y ∈ x :: xs := p.mem_iff.mpr List.mem_cons_self
      rcases List.mem_cons.mp hx with e | hx
      · exact e
      rcases List.mem_cons.mp hy with e | hy
      · exact e.symm
      exact leS_antisymm (List.rel_of_pairwise_cons h1 hy) (List.rel_of_pairwise_cons h2 hx)
    subst e
    rw [sorted_unique (List.Perm.cons_inv p) h1.of_cons h2.of_cons]
theorem sortedS_pairwise : ∀ {xs : List Str}, PyProof.Rows.sortedS xs = true → xs.Pairwise (fun a b => leS a b = true)
  | [], _ => .nil
  | [x], _ => by simp
  | x :: y :: r, h => by
    have h' : (!Spec.ltCps y.cps.toList x.cps.toList) = true ∧ PyProof.Rows.sortedS (y :: r) = true := by simpa [PyProof.Rows.sortedS, PyProof.Rows.risingS] using h
    have ih := sortedS_pairwise h'.2
    have hxy : leS x y = true := by
      unfold leS
      rw [PyProof.Rows.lt_meets]
      exact h'.1
    refine List.pairwise_cons.mpr ⟨fun z hz => ?_, ih⟩
    rcases List.mem_cons.mp hz with rfl | hz
    · exact hxy
    · exact leS_trans _ _ _ hxy (List.rel_of_pairwise_cons ih hz)
theorem srt_eq {xs ys : List Str} (p : ys.Perm xs) (h : PyProof.Rows.sortedS ys = true) : ys = srt xs := sorted_unique (p.trans (srt_perm xs).symm) (sortedS_pairwise h) (srt_sorted xs)
/-! ## rules -/
section
variable {X : Cx} {σ : St} {F H : Hp} {e a b c : Expr} {es : List Expr} {d d1 d2 : PyData} {ds : List PyData} {v : V} {i j k : Int} {pos p : Pos} {x y : Str} {bb cc : Bool}
/-- sorted of texts, any number -/
def rSortedSA (K : PySem.W.Frag) : List V → Hp → VK → Prop := fun vs H Q => ∃ (a : Addr) (xs : List Str), vs = [V.ref a] ∧ SqL K H a (xs.map V.str) ∧ ∀ (p : Addr), H p = none → Q (.ref p) (upd H p (.lst ((srt xs).map V.str)))
theorem cr_sortedSA : CallR X (.builtin "sorted") (rSortedSA X.K) := by
  intro pins s σ H vs us Q I r h
  obtain ⟨a, xs, rfl, hs, q⟩ := h
  obtain ⟨its, rv, hl, hz⟩ := I.list hs
  rw [Vals.ref1 r]
  have hlen0 := rv.length
  refine PyProof.Rows.sorted_strsAny hl.isList rv.strs (by rw [← hlen0]; exact hz) fun out ys h1 h2 h3 => ?_
  obtain ⟨ep, he'⟩ := PyProof.Rows.sortedAll_at s.heap its out
  have hlen : (ys.map V.str).length ≤ sizeLine := by rw [List.length_map, h2.length_eq]; rw [List.length_map] at hz; exact hz
  have ey := srt_eq h2 h3
  subst ey
  exact ⟨.ref _, upd H (s.heap.objs.size + 1) (.lst ((srt xs).map V.str)), I.laid (t' := s.toks) (fun _ _ => PyProof.Rows.sortedAll_old) (Nat.le_succ _) ⟨hlen, out.toList, ep, vals_of_strs h1, he'⟩, rfl, q _ (I.hok.fresh (Nat.le_succ _))⟩
/-- lists of unlike lengths -/
def rEqLen (K : PySem.W.Frag) : R2 := fun x y H Q => ∃ a b xs ys, x = .ref a ∧ y = .ref b ∧ SqL K H a xs ∧ SqL K H b ys ∧ xs.length ≠ ys.length ∧ Q (.bl false) H
theorem op_eqLen (hu : X.A.units + 64 < cLine) : OpR X (compareOp .Eq) (rEqLen X.K) := by
  intro pins s σ H x y v u Q I rx ry h
  obtain ⟨a, b, xs, ys, rfl, rfl, h1, h2, hne, q⟩ := h
  cases rx; cases ry
  obtain ⟨its, rv, hl, hz⟩ := I.list h1
  obtain ⟨its2, rv2, hl2, hz2⟩ := I.list h2
  refine SeqAt.eq_list_lengthsAt hl.isList hl2.isList ?_ (by omega) ⟨.bl false, H, I, rfl, q⟩
  have e1 := rv.length
  have e2 := rv2.length
  simp only [List.size_toArray, bne_iff_ne, ne_eq]
  omega
def rNeLen (K : PySem.W.Frag) : R2 := fun x y H Q => ∃ a b xs ys, x = .ref a ∧ y = .ref b ∧ SqL K H a xs ∧ SqL K H b ys ∧ xs.length ≠ ys.length ∧ Q (.bl true) H
/-- a module's constant -/
def Mg (mg : Str → Option Value) (x : Str) (v : V) : Prop := ∃ u, mg x = some u ∧ RelV v u
end
end Kr
/-! layer Kr6 -/
namespace Kr
open PySem L2
/-! ## sizes -/
mutual
def SzD : PyData → Prop
  | .str x => x.length ≤ 100000
  | .list ds => ds.length ≤ 100000 ∧ SzAll ds
  | .tuple ds => SzAll ds
  | .dict kvs => noExK kvs = true
  | _ => True
def SzAll : List PyData → Prop
  | [] => True
  | d :: ds => SzD d ∧ SzAll ds
end
theorem SzAll.mem : ∀ {ds : List PyData} {d : PyData}, SzAll ds → d ∈ ds → SzD d
  | d0 :: ds, d, h, m => by
    rcases List.mem_cons.mp m with rfl | m
    · exact h.1
    · exact SzAll.mem h.2 m
theorem SzAll.get {ds : List PyData} {i : Nat} {d : PyData} (h : SzAll ds) (e : ds[i]? = some d) : SzD d := h.mem (List.mem_of_getElem? e)
/-! ## kinds, rooms, houses -/
def letters : Str := "abcdefghijklmnopqrstuvwxyz"
def isKind (x : Str) : Bool := decide ((1 : Int) ≤ x.length) && decide ((x.length : Int) ≤ 4) && x.cps.toList.all fun c => decide (c ∈ letters.cps.toList)
def ksD (ks : List Str) : PyData := .list (ks.map .str)
abbrev Room' := List Str × List Str
abbrev House := List Str × List Room'
def roomD (r : Room') : PyData := .tuple [ksD r.1, ksD r.2]
def houseD (h : House) : PyData := .tuple [ksD h.1, .list (h.2.map roomD)]
def goodRoom (r : Room') : Prop := (∀ k ∈ r.1, isKind k = true) ∧ (∀ k ∈ r.2, isKind k = true) ∧ 1 ≤ r.1.length ∧ r.1.length ≤ 4 ∧ srt r.1 = r.1
structure GoodHouse (h : House) : Prop where
  keys : ∀ k ∈ h.1, isKind k = true
  rooms : ∀ r ∈ h.2, goodRoom r
  few : h.1.length ≤ 100000
  many : h.2.length ≤ 100000
  each : ∀ r ∈ h.2, r.2.length ≤ 100000
theorem isKind_len {x : Str} (h : isKind x = true) : 1 ≤ x.length ∧ x.length ≤ 4 := by
  unfold isKind at h
  simp only [Bool.and_eq_true, decide_eq_true_eq] at h
  omega
/-- a list of which none is out -/
theorem filter_none {α : Type} (xs : List α) (p : α → Bool) (h : α → PyData) : ((xs.filter fun x => !p x).map h).isEmpty = xs.all p := by
  induction xs with
  | nil => rfl
  | cons x xs ih =>
    cases hp : p x with
    | true => simp only [List.filter_cons, hp, Bool.not_true, Bool.false_eq_true, if_false, List.all_cons, Bool.true_and]; exact ih
    | false => simp only [List.filter_cons, hp, Bool.not_false, if_true, List.map_cons, List.isEmpty_cons, List.all_cons, Bool.false_and]
/-! ## equality of kinds, rooms, houses -/
theorem letters_lt : ∀ c ∈ letters.cps.toList, c < 0x110000 := by decide +kernel
theorem strOk_kind {x : Str} (h : isKind x = true) : PyData.strOk x = true := by
  unfold isKind at h
  simp only [Bool.and_eq_true, List.all_eq_true, decide_eq_true_eq] at h
  unfold PyData.strOk
  rw [← Array.all_toList, List.all_eq_true]
  exact fun c hc => decide_eq_true (letters_lt c (h.2 c hc))
theorem eqvAll_strs : ∀ a b : List Str, PyData.eqvAll (a.map .str) (b.map .str) = decide (a = b)
  | [], [] => by simp [PyData.eqvAll]
  | [], _ :: _ => by simp [PyData.eqvAll]
  | _ :: _, [] => by simp [PyData.eqvAll]
  | x :: a, y :: b => by
    simp only [List.map_cons, PyData.eqvAll, PyData.eqv, eqvAll_strs a b, List.cons.injEq]
    by_cases h : x = y <;> simp [h]
theorem eqv_ks (a b : List Str) : PyData.eqv (ksD a) (ksD b) = decide (a = b) := by simp only [ksD, PyData.eqv, eqvAll_strs]
/-- laid, and so deep at most -/
def Lay (n : Nat) (d : PyData) : Prop := d.canLay0 = true ∧ d.depth ≤ n
theorem Lay.shaped {n : Nat} {d : PyData} (h : Lay n d) (hn : n ≤ 64 := by decide) : SeqAt.shaped d = true := by
  unfold SeqAt.shaped
  rw [h.1, decide_eq_true (Nat.le_trans h.2 hn)]
  rfl
theorem lay_all : ∀ {n : Nat} {ds : List PyData}, (∀ d ∈ ds, Lay n d) → PyData.canLayAll0 ds = true ∧ PyData.depthAll ds ≤ n
  | n, [], _ => ⟨by simp [PyData.canLayAll0], by simp [PyData.depthAll]⟩
  | n, d :: ds, h => by
    obtain ⟨h1, h2⟩ := lay_all fun x m => h x (List.mem_cons_of_mem _ m)
    obtain ⟨h3, h4⟩ := h d List.mem_cons_self
    exact ⟨by simp [PyData.canLayAll0, h1, h3], by simp only [PyData.depthAll]; omega⟩
theorem lay_list {n : Nat} {ds : List PyData} (h : ∀ d ∈ ds, Lay n d) : Lay (n + 1) (.list ds) := by
  obtain ⟨h1, h2⟩ := lay_all h
  exact ⟨by simp only [PyData.canLay0]; exact h1, by simp only [PyData.depth]; omega⟩
theorem Lay.up {n m : Nat} {d : PyData} (h : Lay n d) (e : n ≤ m) : Lay m d := ⟨h.1, Nat.le_trans h.2 e⟩
theorem lay_str {x : Str} (h : PyData.strOk x = true) {n : Nat} : Lay n (.str x) := ⟨by simp [PyData.canLay0, h], by simp [PyData.depth]⟩
theorem lay_ks {ks : List Str} (h : ∀ k ∈ ks, isKind k = true) : Lay 1 (ksD ks) := lay_list fun d m => by
  obtain ⟨k, hk, rfl⟩ := List.mem_map.mp m
  exact lay_str (strOk_kind (h k hk))
/-! ## isinstance of data -/
end Kr
/-! layer Kr7 -/
namespace Kr
open PySem L2
/-! ## the pool -/
def Pool (H : Hp) (p : Addr) (n : Nat) : Prop := ∃ c m s : Int, H p = some (.lst [.int c, .int m, .int s]) ∧ (m = 0 ∨ m = 1) ∧ 0 ≤ s ∧ s ≤ n
theorem Pool.some {H : Hp} {p : Addr} {n : Nat} (h : Pool H p n) : ∃ o, H p = some o := by
  obtain ⟨c, m, s, h, _⟩ := h
  exact ⟨_, h⟩
theorem Pool.mono {H H' : Hp} {p : Addr} {n m : Nat} (h : Pool H p n) (s : Same H H') (e : n ≤ m := by omega) : Pool H' p m := by
  obtain ⟨c, k, t, h, h1, h2, h3⟩ := h
  exact ⟨c, k, t, s _ _ h, h1, h2, by omega⟩
/-- heaps that grow, the pool at p apart -/
structure Gp (p : Addr) (F H F2 H2 : Hp) : Prop where
  ff : Same F F2
  fh : Same F2 H2
  hh : ∀ b o, b ≠ p → H b = some o → H2 b = some o
  at' : H p ≠ none → H2 p ≠ none
  new : ∀ b, F b = none → H b ≠ none → F2 b = none
section
variable {p : Addr} {F H F1 H1 F2 H2 : Hp}
theorem Gr.gp (g : Gr F H F1 H1) : Gp p F H F1 H1 := ⟨g.ff, g.fh, fun b o _ e => g.hh _ _ e, fun n z => n (g.hh.free z), g.new⟩
theorem Gp.refl (s : Same F H) : Gp p F H F H := (Gr.refl s).gp
theorem Gp.trans (a : Gp p F H F1 H1) (b : Gp p F1 H1 F2 H2) : Gp p F H F2 H2 :=
  ⟨a.ff.trans b.ff, b.fh, fun c o n e => b.hh c o n (a.hh c o n e), fun n => b.at' (a.at' n), fun c e n => b.new c (a.new c e n) (by
    by_cases hc : c = p
    · subst hc; exact a.at' n
    · intro z
      cases hn : H c with
      | none => exact n hn
      | some o => rw [a.hh c o hc hn] at z; cases z)⟩
theorem Gp.pool (g : Gp p F H F1 H1) {o : HO} (h : F1 p = none) : Gp p F H F1 (upd H1 p o) :=
  ⟨g.ff, same_mut g.fh h, fun b u n e => (by rw [upd_ne n]; exact g.hh b u n e), fun _ => (by rw [upd_same]; exact fun z => nomatch z), g.new⟩
theorem Gp.f0 (g : Gp p F H F1 H1) {q : Addr} {o : HO} (h : F q = none) (hH : H q = some o) : F1 q = none := g.new q h (by rw [hH]; exact fun z => nomatch z)
/-- a new object that stays open -/
theorem Gp.open' (g : Gp p F H F1 H1) {q : Addr} {o : HO} (h : H1 q = none) (hp : H p ≠ none) : Gp p F H F1 (upd H1 q o) :=
  ⟨g.ff, same_mut g.fh (g.fh.free h), fun b u n e => by
    have : b ≠ q := fun z => by subst z; rw [g.hh _ _ n e] at h; cases h
    rw [upd_ne this]; exact g.hh b u n e, fun n => by
    have : p ≠ q := fun z => by subst z; exact g.at' hp h
    rw [upd_ne this]; exact g.at' n, g.new⟩
theorem Gp.shut (g : Gp p F H F1 H1) {q : Addr} {o : HO} (h : H1 q = none) (hp : H p ≠ none) : Gp p F H (upd F1 q o) (upd H1 q o) := by
  have g2 := g.open' (o := o) h hp
  refine ⟨g.ff.trans (same_upd (g.fh.free h)), same_both g.fh, g2.hh, g2.at', fun b e n => ?_⟩
  have hb : b ≠ q := fun z => by
    subst z
    by_cases hbp : b = p
    · subst hbp; exact g.at' n h
    · cases hn : H b with
      | none => exact n hn
      | some o => rw [g.hh b o hbp hn] at h; cases h
  rw [upd_ne hb]; exact g.new b e n
theorem gr_ff (s : Same F H) : Gr F F F H := ⟨Same.refl _, s, s, fun _ e n => absurd e n⟩
end
section
variable {X : Cx} {σ : St} {F H : Hp} {e : Expr} {d : PyData} {v : V} {b : Bool} {es : List Expr} {ds : List PyData}
/-- what hangs on the told heap alone, at any heap -/
theorem DE.at (h : DE X e σ F F d) (s : Same F H) {Q : VK} (q : ∀ v F2 H2, Gr F H F2 H2 → Da F2 d v → Q v H2) : WE X e σ H Q := h F H (gr_ff s) Q q
theorem VE.at (h : VE X e σ F F v) (s : Same F H) {Q : VK} (q : ∀ F2 H2, Gr F H F2 H2 → Q v H2) : WE X e σ H Q := h F H (gr_ff s) Q q
theorem DT.at (h : DT X e σ F F b) (s : Same F H) {Q : Bool → Hp → Prop} (q : ∀ F2 H2, Gr F H F2 H2 → Q b H2) : WT X e σ H Q := h F H (gr_ff s) Q q
theorem DL.at (h : DL X es σ F F ds) (s : Same F H) {Q : List V → Hp → Prop} (q : ∀ vs F2 H2, Gr F H F2 H2 → DaAll F2 ds vs → Q vs H2) : WA X es σ H Q := h F H (gr_ff s) Q q
theorem DE.f {F' : Hp} (h : DE X e σ F F d) (s : Same F F') : DE X e σ F' F' d := h.mono ⟨s, Same.refl _, s, fun _ e n => absurd e n⟩
theorem DE.fh (h : DE X e σ F F d) (s : Same F H) : DE X e σ F H d := h.mono (gr_ff s)
end
/-! ## expressions that draw: of c drawings, told is one of R -/
def Px (p : Addr) (c : Nat) (X : Cx) (e : Expr) (σ : St) (F : Hp) (R : PyData → Prop) : Prop := ∀ n F1 H1, Same F F1 → Same F1 H1 → F1 p = none → Pool H1 p n → n + c ≤ 1000000 → ∀ Q : VK, (∀ d v F2 H2, Gp p F1 H1 F2 H2 → Pool H2 p (n + c) → Da F2 d v → R d → Q v H2) → WE X e σ H1 Q
def PxT (p : Addr) (c : Nat) (X : Cx) (e : Expr) (σ : St) (F : Hp) (R : Bool → Prop) : Prop := ∀ n F1 H1, Same F F1 → Same F1 H1 → F1 p = none → Pool H1 p n → n + c ≤ 1000000 → ∀ Q : Bool → Hp → Prop, (∀ b F2 H2, Gp p F1 H1 F2 H2 → Pool H2 p (n + c) → R b → Q b H2) → WT X e σ H1 Q
section
variable {p : Addr} {c c1 c2 : Nat} {X : Cx} {σ : St} {F H : Hp} {e a b : Expr} {d : PyData} {ds : List PyData} {R R' : PyData → Prop} {pos q : Pos} {x : Str} {i j : Int}
theorem Px.imp (h : Px p c X e σ F R) (k : ∀ d, R d → R' d) : Px p c X e σ F R' := fun n F1 H1 s1 s2 f P hc Q q => h n F1 H1 s1 s2 f P hc Q fun d v F2 H2 g P2 hd hR => q d v F2 H2 g P2 hd (k d hR)
theorem Px.mono {F' : Hp} (h : Px p c X e σ F R) (s : Same F F') : Px p c X e σ F' R := fun n F1 H1 s1 s2 f P hc Q q => h n F1 H1 (s.trans s1) s2 f P hc Q q
theorem Px.up (h : Px p c X e σ F R) (hc : c ≤ c1) : Px p c1 X e σ F R := fun n F1 H1 s1 s2 f P hn Q q => h n F1 H1 s1 s2 f P (by omega) Q fun d v F2 H2 g P2 hd hR => q d v F2 H2 g (P2.mono (Same.refl _) (by omega)) hd hR
theorem Px.go {n : Nat} (h : Px p c X e σ F R) (s : Same F H) (f : F p = none) (P : Pool H p n) (hn : n + c ≤ 1000000) {Q : VK} (q : ∀ d v F2 H2, Gp p F H F2 H2 → Pool H2 p (n + c) → Da F2 d v → R d → Q v H2) : WE X e σ H Q := h n F H (Same.refl _) s f P hn Q q
theorem PxT.go {R : Bool → Prop} {n : Nat} (h : PxT p c X e σ F R) (s : Same F H) (f : F p = none) (P : Pool H p n) (hn : n + c ≤ 1000000) {Q : Bool → Hp → Prop} (q : ∀ b F2 H2, Gp p F H F2 H2 → Pool H2 p (n + c) → R b → Q b H2) : WT X e σ H Q := h n F H (Same.refl _) s f P hn Q q
end
/-! ## comprehensions that draw -/
/-- .. and what is told is new -/
def PxN (p : Addr) (c : Nat) (X : Cx) (e : Expr) (σ : St) (F : Hp) (R : PyData → Prop) : Prop := ∀ n F1 H1, Same F F1 → Same F1 H1 → F1 p = none → Pool H1 p n → n + c ≤ 1000000 → ∀ Q : VK, (∀ d v F2 H2, Gp p F1 H1 F2 H2 → Pool H2 p (n + c) → Da F2 d v → R d → (∀ a, v = .ref a → H1 a = none) → Q v H2) → WE X e σ H1 Q
theorem PxN.imp {p : Addr} {c : Nat} {X : Cx} {e : Expr} {σ : St} {F : Hp} {R R' : PyData → Prop} (h : PxN p c X e σ F R) (k : ∀ d, R d → R' d) : PxN p c X e σ F R' := fun n F1 H1 s1 s2 f P hn Q q => h n F1 H1 s1 s2 f P hn Q fun d v F2 H2 g P2 hd hR hf => q d v F2 H2 g P2 hd (k d hR) hf
theorem PxN.up {p : Addr} {c c1 : Nat} {X : Cx} {e : Expr} {σ : St} {F : Hp} {R : PyData → Prop} (h : PxN p c X e σ F R) (hc : c ≤ c1) : PxN p c1 X e σ F R := fun n F1 H1 s1 s2 f P hn Q q => h n F1 H1 s1 s2 f P (by omega) Q fun d v F2 H2 g P2 hd hR hf => q d v F2 H2 g (P2.mono (Same.refl _) (by omega)) hd hR hf
theorem PxN.go {p : Addr} {c n : Nat} {X : Cx} {e : Expr} {σ : St} {F H : Hp} {R : PyData → Prop} (h : PxN p c X e σ F R) (s : Same F H) (f : F p = none) (P : Pool H p n) (hn : n + c ≤ 1000000) {Q : VK} (q : ∀ d v F2 H2, Gp p F H F2 H2 → Pool H2 p (n + c) → Da F2 d v → R d → (∀ a, v = .ref a → H a = none) → Q v H2) : WE X e σ H Q := h n F H (Same.refl _) s f P hn Q q
/-! ## defs that draw -/
/-- .. that tells a new thing -/
def spN (c n : Nat) (pre : List PyData → Prop) (post : List PyData → PyData → Prop) : Sp := fun vs H Q _ => ∃ (p : Addr) (m : Nat) (F : Hp) (ds : List PyData) (us : List V), vs = .ref p :: us ∧ ds.length = n ∧ Pool H p m ∧ m + c ≤ 1000000 ∧ Same F H ∧ F p = none ∧ DaAll F ds us ∧ pre ds ∧
  ∀ d v F2 H2, Gp p F H F2 H2 → Pool H2 p (m + c) → Da F2 d v → post ds d → (∀ a, v = .ref a → H a = none) → Q v H2
section
variable {P : Program} {w : World} {K : PySem.W.Frag} {mg : Str → Option Value} {base : Heap}
theorem okN {x qual : Str} {st : Stmt} {f : Addr} {fd : FuncData} {N ps : List Str} {k c n : Nat} {pre : List PyData → Prop} {post : List PyData → PyData → Prop} (F : Fun K x qual st f fd) (S : FnScope N ps (defScope st)) (hn : ps.length = n + 1)
    (hbody : ∀ (X : Cx) (cdv : Value) (A : Around) (outer : List Env) (s : Shared) (H0 : Hp) (E : XK) (p : Addr) (m : Nat) (us : List V) (F H : Hp) (ds : List PyData) (Q : VK), X = (cxOf CX0 P w K mg base N qual (defScope st) f cdv A outer s H0 E).nox → Room k X.A → Pool H p m → m + c ≤ 1000000 → Same F H → F p = none → DaAll F ds us → pre ds →
      (∀ d v F2 H2, Gp p F H F2 H2 → Pool H2 p (m + c) → Da F2 d v → post ds d → (∀ a, v = .ref a → H a = none) → Q v H2) → WSs X (defBody st) { nx := fun _ H' => Q .non H', rt := Q } (start N (.ref p :: us)) H) : FnOk P w K mg base CX0 (k + 1) f fd ps (spN c n pre post) :=
  okW F S (fun vs H Q E ⟨p, m, F, ds, us, e, hl, _, _, _, _, ha, _⟩ => by rw [e, List.length_cons, ha.length, hl, hn]) fun cdv A outer s H vs Q E hr ⟨p, m, F, ds, us, e, hl, hP, hm, hs, hp, ha, hpre, q⟩ => by
    subst e
    exact hbody _ cdv A outer s H E p m us F H ds Q rfl hr hP hm hs hp ha hpre q
end
/-! ## the script -/
end Kr
/-! layer Kr8 -/
namespace Kr
open PySem L2
/-! ## texts of letters -/
def LS (x : Str) : Prop := ∀ c ∈ x.cps.toList, c ∈ letters.cps.toList
theorem isKind_iff {x : Str} : isKind x = true ↔ LS x ∧ 1 ≤ x.length ∧ x.length ≤ 4 := by
  unfold isKind LS
  simp only [Bool.and_eq_true, List.all_eq_true, decide_eq_true_eq]
  constructor
  · rintro ⟨⟨h1, h2⟩, h3⟩; exact ⟨h3, by omega, by omega⟩
  · rintro ⟨h1, h2, h3⟩; exact ⟨⟨by omega, by omega⟩, h1⟩
theorem str_append_cps (x y : Str) : (x ++ y).cps.toList = x.cps.toList ++ y.cps.toList := by
  show (x.cps ++ y.cps).toList = _
  simp
theorem LS.append {x y : Str} (h : LS x) (h' : LS y) : LS (x ++ y) := fun c hc => by
  rw [str_append_cps] at hc
  rcases List.mem_append.mp hc with z | z
  · exact h c z
  · exact h' c z
theorem LS.one {c : Nat} (h : c ∈ letters.cps.toList) : LS ⟨#[c]⟩ := fun d hd => by
  have : d = c := by simpa using hd
  rw [this]; exact h
theorem cutS_mem {z : Str} {lo hi : Option Int} {c : Nat} (h : c ∈ (cutS z lo hi).cps.toList) : c ∈ z.cps.toList := by
  unfold cutS at h
  simp only at h
  rw [List.toList_toArray] at h
  exact List.mem_of_mem_drop (List.mem_of_mem_take h)
theorem LS.cut {z : Str} (h : LS z) (lo hi : Option Int) : LS (cutS z lo hi) := fun c hc => h c (cutS_mem hc)
theorem subset_length {α : Type} [DecidableEq α] : ∀ {l ks : List α}, l.Nodup → (∀ x ∈ l, x ∈ ks) → l.length ≤ ks.length
  | [], _, _, _ => Nat.zero_le _
  | x :: l, ks, hn, h => by
    have hx : x ∈ ks := h x List.mem_cons_self
    have hn' := List.nodup_cons.mp hn
    have := subset_length (ks := ks.erase x) hn'.2 fun y hy => by
      have hne : y ≠ x := fun e => by subst e; exact hn'.1 hy
      exact (List.mem_erase_of_ne hne).mpr (h y (List.mem_cons_of_mem _ hy))
    rw [List.length_erase_of_mem hx] at this
    have : 0 < ks.length := List.length_pos_of_mem hx
    simp only [List.length_cons]
    omega
/-! ## rules for texts -/
/-! ## methods of lists -/
structure Bm (X : Cx) (o : Expr) (name : Str) (e : Expr) (es : List Expr) (apos cpos : Pos) : Prop where
  hbase : attributeBase o name X.env (eval o X.env) = eval o X.env
  hfew : ((backTo cpos (starEach (e :: es) X.env)).all (fun x => !x.1) && (backToKw cpos (keywordEach [] X.env)).all (fun x => x.1.isSome)
      && decide ((e :: es).length + ([] : List Keyword).length + (if ([] : List Keyword).isEmpty then 0 else 1) < 30)) = true
  hline : (apos.endLine == cpos.line) = true
  hs : starEach (e :: es) X.env = (false, eval e X.env) :: starEach es X.env
  hplain : (backTo cpos (starEach es X.env)).any (·.1) = false
theorem Gp.back {p : Addr} {F F' H F2 H2 : Hp} (g : Gp p F' H F2 H2) (s : Same F F') : Gp p F H F H2 := ⟨Same.refl _, s.trans (g.ff.trans g.fh), g.hh, g.at', fun _ e _ => e⟩
theorem Gr.back {F F' H F2 H2 : Hp} (g : Gr F' H F2 H2) (s : Same F F') : Gr F H F H2 := ⟨Same.refl _, s.trans (g.ff.trans g.fh), g.hh, fun _ e _ => e⟩
theorem Same.cell {F H : Hp} {l : Addr} {o : HO} (s : Same F H) (h : H l = some o) : Same (upd F l o) H := fun b x e => by
  by_cases hb : b = l
  · subst hb; rw [upd_same] at e; rw [h]; exact e
  · rw [upd_ne hb] at e; exact s _ _ e
end Kr
/-! layer Kr9 -/
namespace Kr
open PySem L2
/-! ## all that is new is told for the time being -/
def Fz (F0 H0 H : Hp) : Hp := fun b => if ((H0 b).isNone || (F0 b).isSome) = true then H b else none
/-- behind a start at F0, H0: all but the pool stands; so many drawings -/
structure HS (p : Addr) (F0 H0 H : Hp) (n : Nat) : Prop where
  s0 : Same F0 H0
  f0 : F0 p = none
  p0 : H0 p ≠ none
  hh : ∀ b o, b ≠ p → H0 b = some o → H b = some o
  P : Pool H p n
section
variable {p : Addr} {F0 H0 H H2 F2 : Hp} {n m : Nat} {q : Addr} {o : HO}
theorem Fz.new (h : H0 q = none) : Fz F0 H0 H q = H q := by
  unfold Fz
  rw [h]
  rfl
theorem Fz.le : Same (Fz F0 H0 H) H := fun b x e => by
  unfold Fz at e
  split at e
  · exact e
  · cases e
theorem HS.sF (s : HS p F0 H0 H n) : Same F0 H := fun b x e => s.hh b x (ne_of_none e s.f0) (s.s0 b x e)
theorem HS.sz (s : HS p F0 H0 H n) : Same F0 (Fz F0 H0 H) := fun b x e => by
  unfold Fz
  rw [e]
  show (if ((H0 b).isNone || true) = true then H b else none) = some x
  rw [Bool.or_true, if_pos rfl]
  exact s.sF b x e
theorem HS.gp (s : HS p F0 H0 H n) : Gp p F0 H0 (Fz F0 H0 H) H := ⟨s.sz, Fz.le, s.hh, fun _ => (by obtain ⟨o, ho⟩ := s.P.some; rw [ho]; exact fun z => nomatch z), fun b e hn => by
  unfold Fz
  rw [e]
  cases h : H0 b with
  | none => exact absurd h hn
  | some o => rfl⟩
theorem HS.step (s : HS p F0 H0 H n) (g : Gp p (Fz F0 H0 H) H F2 H2) (P : Pool H2 p m) : HS p F0 H0 H2 m := ⟨s.s0, s.f0, s.p0, fun b o hb e => g.hh b o hb (s.hh b o hb e), P⟩
theorem HS.gr (s : HS p F0 H0 H n) {F : Hp} (g : Gr F H F2 H2) : HS p F0 H0 H2 n := ⟨s.s0, s.f0, s.p0, fun b o hb e => g.hh b o (s.hh b o hb e), s.P.mono g.hh⟩
theorem HS.up (s : HS p F0 H0 H n) (h : n ≤ m) : HS p F0 H0 H m := ⟨s.s0, s.f0, s.p0, s.hh, s.P.mono (Same.refl _) h⟩
theorem HS.ne' (s : HS p F0 H0 H n) (h : H q = none) : q ≠ p := fun z => by
  subst z
  obtain ⟨o, ho⟩ := s.P.some
  rw [ho] at h; cases h
theorem HS.free (s : HS p F0 H0 H n) (h : H q = none) : H0 q = none := by
  cases e : H0 q with
  | none => rfl
  | some o => rw [s.hh q o (s.ne' h) e] at h; cases h
theorem HS.start (s : Same F0 H0) (f : F0 p = none) (P : Pool H0 p n) : HS p F0 H0 H0 n := ⟨s, f, (by obtain ⟨o, ho⟩ := P.some; rw [ho]; exact fun z => nomatch z), fun _ _ _ e => e, P⟩
end
/-! ## rooms that are being made -/
structure RC where
  t : Addr
  d : Addr
  k : Addr
  locks : List Str
  keys : List Str
structure RoomAt (H0 H : Hp) (r : RC) : Prop where
  t0 : H0 r.t = none
  d0 : H0 r.d = none
  k0 : H0 r.k = none
  ht : H r.t = some (.tup [.ref r.d, .ref r.k])
  hd : H r.d = some (.lst (r.locks.map V.str))
  hk : H r.k = some (.lst (r.keys.map V.str))
def RC.room (r : RC) : Room' := (r.locks, r.keys)
theorem RoomAt.keep {H0 H H2 : Hp} {r : RC} (h : RoomAt H0 H r) (k : ∀ b o, (b = r.t ∨ b = r.d ∨ b = r.k) → H b = some o → H2 b = some o) : RoomAt H0 H2 r :=
  ⟨h.t0, h.d0, h.k0, k _ _ (.inl rfl) h.ht, k _ _ (.inr (.inl rfl)) h.hd, k _ _ (.inr (.inr rfl)) h.hk⟩
theorem PxT.imp {p : Addr} {c : Nat} {X : Cx} {e : Expr} {σ : St} {F : Hp} {R R' : Bool → Prop} (h : PxT p c X e σ F R) (k : ∀ b, R b → R' b) : PxT p c X e σ F R' := fun n F1 H1 s1 s2 f P hn Q q => h n F1 H1 s1 s2 f P hn Q fun b F2 H2 g P2 hR => q b F2 H2 g P2 (k b hR)
section
variable {p : Addr} {F0 H0 H H2 F2 : Hp} {n m : Nat} {q : Addr} {o : HO}
theorem HS.keep (s : HS p F0 H0 H n) (g : Gp p (Fz F0 H0 H) H F2 H2) : Same F2 (Fz F0 H0 H2) := fun b x e => by
  have h2 := g.fh b x e
  have hb : ((H0 b).isNone || (F0 b).isSome) = true := by
    cases hh : ((H0 b).isNone || (F0 b).isSome) with
    | true => rfl
    | false =>
      have hz : Fz F0 H0 H b = none := by unfold Fz; rw [hh]; rfl
      have hne : H b ≠ none := by
        intro z
        have := s.free z
        rw [this] at hh
        simp at hh
      rw [g.new b hz hne] at e
      cases e
  unfold Fz
  rw [hb, if_pos rfl]
  exact h2
end
end Kr
/-! layer KrS -/
namespace Kr
open PySem PySem.Spec PyProof.Rows
/-! ## sets of texts -/
def txtOf (e : Int × Value) : Str := match e.2 with | .str x _ => x | _ => ⟨#[]⟩
def EntS (w : World) (e : Int × Value) : Prop := ∃ x tk, e.2 = Value.str x tk ∧ e.1 = hashStr w x
/-- the set at a: its texts, in the order of its rows -/
def StrSet (w : World) (h : Heap) (a : Addr) (L : List Str) : Prop := ∃ ob rows ep tb, h.get? a = some ob ∧ ob.ExactSet ∧ ob.data = .set rows ep tb ∧ (∀ e ∈ rows.toList, EntS w e) ∧ rows.toList.map txtOf = L ∧ L.Nodup ∧
  rows.size < scanBound ∧ tb.fits rows.size = true ∧ L2.Ris tb.place.toList ∧ (w.params.followText "set-order" = true ∨ tb.led = true)
section
variable {P : Program} {w : World} {A : Around} {E : Value → Shared → Prop} {s : Shared} {a : Addr} {L : List Str} {h h' : Heap}
theorem StrSet.at (R : StrSet w h a L) (k : ∀ o, h.get? a = some o → h'.get? a = some o) : StrSet w h' a L := by
  obtain ⟨ob, rows, ep, tb, h1, rest⟩ := R
  exact ⟨ob, rows, ep, tb, k ob h1, rest⟩
end
/-- of these texts, each once -/
def Met (xs L : List Str) : Prop := L.Nodup ∧ ∀ x, x ∈ L ↔ x ∈ xs
theorem Met.next {xs L L' : List Str} {i : Nat} {x : Str} (m : Met (xs.take i) L) (hx : xs[i]? = some x) (c : (x ∈ L ∧ L' = L) ∨ (x ∉ L ∧ L'.Perm (x :: L))) : Met (xs.take (i + 1)) L' := by
  rw [List.take_add_one, hx]
  rcases c with ⟨h, rfl⟩ | ⟨h, pm⟩
  · refine ⟨m.1, fun y => ?_⟩
    rw [m.2 y]
    simp only [Option.toList_some, List.mem_append, List.mem_singleton]
    exact ⟨.inl, fun z => z.elim id fun e => by subst e; exact (m.2 y).mp h⟩
  · refine ⟨pm.nodup_iff.mpr (List.nodup_cons.mpr ⟨h, m.1⟩), fun y => ?_⟩
    rw [pm.mem_iff, List.mem_cons, m.2 y]
    simp only [Option.toList_some, List.mem_append, List.mem_singleton]
    exact Or.comm
theorem Met.len {xs L : List Str} (m : Met xs L) : L.length ≤ xs.length := subset_length m.1 fun x h => (m.2 x).mp h
end Kr
/-! layer KrT -/
namespace Kr
open PySem L2
/-! ## set(xs), sorted of it -/
/-- the kinds of a list, sorted, each once -/
def kset (xs : List Str) : List Str := srt xs.eraseDups
theorem eraseDups_met : ∀ (n : Nat) (xs : List Str), xs.length ≤ n → Met xs xs.eraseDups
  | 0, [], _ => ⟨List.nodup_nil, fun x => by simp⟩
  | n + 1, [], _ => ⟨List.nodup_nil, fun x => by simp⟩
  | n + 1, x :: xs, h => by
    rw [List.eraseDups_cons]
    have hl : (xs.filter fun b => !b == x).length ≤ n := Nat.le_trans (List.length_filter_le _ _) (by simpa using h)
    obtain ⟨h1, h2⟩ := eraseDups_met n _ hl
    refine ⟨List.nodup_cons.mpr ⟨fun z => ?_, h1⟩, fun y => ?_⟩
    · have := (h2 x).mp z
      simp at this
    · rw [List.mem_cons, h2 y, List.mem_filter, List.mem_cons]
      by_cases e : y = x
      · simp [e]
      · simp [e]
theorem srt_perm_eq {xs ys : List Str} (p : xs.Perm ys) : srt xs = srt ys := sorted_unique ((srt_perm xs).trans (p.trans (srt_perm ys).symm)) (srt_sorted xs) (srt_sorted ys)
theorem mem_kset {xs : List Str} {x : Str} : x ∈ kset xs ↔ x ∈ xs := mem_srt.trans ((eraseDups_met _ xs (Nat.le_refl _)).2 x)
theorem kset_nodup (xs : List Str) : (kset xs).Nodup := (srt_perm _).nodup_iff.mpr (eraseDups_met _ xs (Nat.le_refl _)).1
theorem kset_sorted (xs : List Str) : (kset xs).Pairwise (fun a b => leS a b = true) := srt_sorted _
end Kr
/-! layer KrU -/
namespace Kr
open PySem L2
/-! ## defs that tell something new of data -/
section
variable {X : Cx} {σ : St} {F H : Hp} {e o : Expr} {es : List Expr} {ds : List PyData} {k n : Nat} {f : Addr} {fd : FuncData} {ps : List Str} {pre : List PyData → Prop} {post : List PyData → PyData → Prop} {x : Str} {p pos apos cpos : Pos} {D : Ends} {d : PyData} {l : Addr} {xs : List V}
/-- what is new and one of R -/
def NE (X : Cx) (e : Expr) (σ : St) (F H : Hp) (R : PyData → Prop) : Prop := ∀ F1 H1, Gr F H F1 H1 → ∀ Q : VK, (∀ d v F2 H2, Gr F1 H1 F2 H2 → Da F2 d v → R d → (∀ a, v = .ref a → H1 a = none) → Q v H2) → WE X e σ H1 Q
theorem NE.go {R : PyData → Prop} (h : NE X e σ F H R) (s : Same F H) {Q : VK} (q : ∀ d v F2 H2, Gr F H F2 H2 → Da F2 d v → R d → (∀ a, v = .ref a → H a = none) → Q v H2) : WE X e σ H Q := h F H (.refl s) Q q
end
/-! ## what comes -/
inductive Comes (h : House) : Str → Prop
  | begin' {k : Str} : k ∈ h.1 → Comes h k
  | room {r : Room'} {k : Str} : r ∈ h.2 → (∀ l ∈ r.1, Comes h l) → k ∈ r.2 → Comes h k
def keysIn (rs : List Room') : Nat := (rs.map fun r => r.2.length).sum
structure Small (h : House) : Prop where
  good : GoodHouse h
  b : h.1.length ≤ 1000
  r : h.2.length ≤ 1000
  k : keysIn h.2 ≤ 1000
theorem flat_len : ∀ rs : List Room', (rs.flatMap (·.2)).length = keysIn rs
  | [] => rfl
  | r :: rs => by unfold keysIn; rw [List.flatMap_cons, List.length_append, List.map_cons, List.sum_cons, flat_len rs]; rfl
end Kr
/-! layer KrV -/
namespace Kr
open PySem L2
/-! ## ints in lists -/
theorem ints_unique : ∀ {xs ys : List Int}, xs.Perm ys → xs.Pairwise (· ≤ ·) → ys.Pairwise (· ≤ ·) → xs = ys
  | [], ys, p, _, _ => (List.nil_perm.mp p).symm
  | x :: xs, [], p, _, _ => by simpa using p.length_eq
  | x :: xs, y :: ys, p, h1, h2 => by
    have e : x = y := by
      have hx : x ∈ y :: ys := p.mem_iff.mp List.mem_cons_self
      have hy : y ∈ x :: xs := p.mem_iff.mpr List.mem_cons_self
      rcases List.mem_cons.mp hx with e | hx
      · exact e
      rcases List.mem_cons.mp hy with e | hy
      · exact e.symm
      exact Int.le_antisymm (List.rel_of_pairwise_cons h1 hy) (List.rel_of_pairwise_cons h2 hx)
    subst e
    rw [ints_unique ((List.perm_cons x).mp p) h1.of_cons h2.of_cons]
def srtI (xs : List Int) : List Int := xs.mergeSort fun a b => decide (a ≤ b)
theorem srtI_perm (xs : List Int) : (srtI xs).Perm xs := List.mergeSort_perm _ _
theorem srtI_sorted (xs : List Int) : (srtI xs).Pairwise (· ≤ ·) := by
  have := List.pairwise_mergeSort (le := fun a b : Int => decide (a ≤ b)) (fun a b c h1 h2 => by simp only [decide_eq_true_eq] at *; omega) (fun a b => by simp only [Bool.or_eq_true, decide_eq_true_eq]; omega) xs
  exact this.imp fun h => of_decide_eq_true h
/-! ## a sign, some times -/
def repS (x : Str) (n : Int) : Str := if n = 1 then x else ⟨(List.replicate n.toNat x.cps).foldl (· ++ ·) #[]⟩
theorem op_repS {X : Cx} : OpR X (binaryOp .Mult) (fun x y H Q => ∃ z n, x = V.str z ∧ y = V.int n ∧ 1 ≤ n ∧ n ≤ 1000 ∧ z.length = 1 ∧ Q (.str (repS z n)) H) := by
  intro pins s σ H x y v u Q I rx ry h
  obtain ⟨z, n, rfl, rfl, h1, h2, hz, q⟩ := h
  obtain ⟨t, rfl⟩ := rx
  obtain ⟨t', rfl⟩ := ry
  have hl : PySem.Builtin.Str.tooLong (z.length * n.toNat) = false := by
    rw [hz, Nat.one_mul]
    unfold PySem.Builtin.Str.tooLong
    simp only [decide_eq_false_iff_not]
    have : sizeLine = 16777216 := by decide
    omega
  refine PySem.P.mul_str (by rw [decide_eq_false (by omega), decide_eq_false (by omega)]; rfl) (fun _ _ => by
    rw [hz]
    have : (1 : Int) ≤ (2 ^ 63 - 1) / n := Int.le_ediv_of_mul_le (by omega) (by omega)
    show ¬ ((1 : Nat) : Int) > _
    omega) (fun _ _ => hl) ?_
  rw [if_neg (by omega)]
  unfold repS at q
  by_cases hn : n = 1
  · subst hn
    rw [if_pos rfl] at q
    rw [if_pos (by rfl)]
    exact ⟨.str z, H, I, ⟨_, rfl⟩, q⟩
  · rw [if_neg hn] at q
    rw [if_neg (by simp [hn, hz])]
    exact ⟨PySem.fits_reps hl, .str _, H, I.tok _, ⟨_, rfl⟩, q⟩
/-! ## the come of a house, as the law takes it -/
structure LC (h : House) (c : List Str) (R : List Int) : Prop where
  hc : ∀ x ∈ c, Comes h x
  hb : ∀ x ∈ h.1, x ∈ c
  nd : c.Nodup
  st : c.Pairwise (fun a b => leS a b = true)
  rn : R.Nodup
  rr : ∀ i ∈ R, ∃ j : Nat, i = j ∧ j < h.2.length
  rk : ∀ j : Nat, (j : Int) ∈ R → ∀ r, h.2[j]? = some r → (∀ l ∈ r.1, l ∈ c) ∧ ∀ k ∈ r.2, k ∈ c
theorem LC.start (h : House) : LC h (kset h.1) [] := ⟨fun x hx => .begin' (mem_kset.mp hx), fun x hx => mem_kset.mpr hx, kset_nodup _, kset_sorted _, List.nodup_nil, (fun _ h => nomatch h), (fun _ h => nomatch h)⟩
theorem LC.step {h : House} {c : List Str} {R : List Int} {j : Nat} {r : Room'} (L : LC h c R) (hr : h.2[j]? = some r) (hj : (j : Int) ∉ R) (hl : ∀ l ∈ r.1, l ∈ c) : LC h (kset (c ++ r.2)) (R ++ [(j : Int)]) := by
  have sub : ∀ x ∈ c, x ∈ kset (c ++ r.2) := fun x hx => mem_kset.mpr (List.mem_append_left _ hx)
  refine ⟨fun x hx => ?_, fun x hx => sub x (L.hb x hx), kset_nodup _, kset_sorted _, ?_, fun i hi => ?_, fun k hk s hs => ?_⟩
  · rcases List.mem_append.mp (mem_kset.mp hx) with hx | hx
    · exact L.hc x hx
    · exact .room (List.mem_of_getElem? hr) (fun l hl' => L.hc l (hl l hl')) hx
  · exact List.nodup_append.mpr ⟨L.rn, List.nodup_cons.mpr ⟨(fun h => nomatch h), List.nodup_nil⟩, fun a ha b hb e => by
      rw [List.mem_singleton] at hb
      subst hb; subst e
      exact hj ha⟩
  · rcases List.mem_append.mp hi with hi | hi
    · exact L.rr i hi
    · rw [List.mem_singleton] at hi
      exact ⟨j, hi, (List.getElem?_eq_some_iff.mp hr).1⟩
  · rcases List.mem_append.mp hk with hk | hk
    · obtain ⟨h1, h2⟩ := L.rk k hk s hs
      exact ⟨fun l hl => sub l (h1 l hl), fun l hl => sub l (h2 l hl)⟩
    · rw [List.mem_singleton] at hk
      have : k = j := by omega
      subst this
      rw [hr] at hs
      injection hs with hs
      subst hs
      exact ⟨fun l hl' => sub l (hl l hl'), fun l hl' => mem_kset.mpr (List.mem_append_right _ hl')⟩
theorem LC.len {h : House} {c : List Str} {R : List Int} (L : LC h c R) : R.length ≤ h.2.length := by
  have := subset_length (ks := (List.range h.2.length).map fun j : Nat => (j : Int)) L.rn fun i hi => by
    obtain ⟨j, rfl, hj⟩ := L.rr i hi
    exact List.mem_map.mpr ⟨j, List.mem_range.mpr hj, rfl⟩
  simpa using this
theorem one_le {r : Room'} : ∀ {rs : List Room'}, r ∈ rs → r.2.length ≤ keysIn rs
  | x :: rs, h => by
    have e : keysIn (x :: rs) = x.2.length + keysIn rs := by unfold keysIn; rw [List.map_cons, List.sum_cons]
    rcases List.mem_cons.mp h with rfl | h
    · omega
    · have := one_le h
      omega
end Kr
/-! layer KrW -/
namespace Kr
open PySem L2
theorem flat_ones {α : Type} (x : α) : ∀ n : Nat, (List.replicate n [x]).flatten = List.replicate n x
  | 0 => rfl
  | n + 1 => by rw [List.replicate_succ, List.flatten_cons, List.replicate_succ, flat_ones x n]; rfl
/-! ## y = [.. for .. in range(e)], by a word of the turn and the heap -/
/-! ## the chain's names -/
def nmK (k : Nat) : Str := repS ⟨#[letters.cps.toList.getD (k % 26) 0]⟩ (1 + (k : Int) / 26)
def nms (n : Nat) : List Str := (List.range n).map nmK
theorem srt_srt (xs : List Str) : srt (srt xs) = srt xs := sorted_unique (srt_perm _) (srt_sorted _) (srt_sorted _)
end Kr
/-! layer KrX -/
namespace Kr
open PySem L2
/-! ## the law's own call -/
def spLaw (K : PySem.W.Frag) : Sp := fun vs H Q _ => ∃ (a : Addr) (ns : List Int), vs = [.ref a] ∧ SqL K H a (ns.map V.int) ∧ ns.length ≤ 63 ∧ ∀ H', Q (.bl true) H'
end Kr
/-! layer KrY -/
/-! layer KrZ -/
/-! layer KrB -/
/-! layer KrC -/
namespace Kr
open PySem L2
structure Mid (h : House) : Prop where
  good : GoodHouse h
  b : h.1.length ≤ 200
  r : h.2.length ≤ 100
  k : keysIn h.2 ≤ 200
theorem Mid.each {h : House} (m : Mid h) {r : Room'} (hr : r ∈ h.2) : r.2.length ≤ 200 := Nat.le_trans (one_le hr) m.k
theorem Mid.begin' {h : House} (m : Mid h) : Small (h.1, []) := by
  have h1 := m.b
  exact ⟨⟨m.good.keys, (fun _ h => nomatch h), by show h.1.length ≤ _; omega, Nat.zero_le _, (fun _ h => nomatch h)⟩, by show h.1.length ≤ _; omega, Nat.zero_le _, Nat.zero_le _⟩
theorem Mid.more {h : House} (m : Mid h) {r : Room'} (hr : r ∈ h.2) : Small (h.1 ++ r.1.take 1, h.2) := by
  have h1 := m.b; have h2 := m.r; have h3 := m.k
  have len : (h.1 ++ r.1.take 1).length ≤ 300 := by rw [List.length_append, List.length_take]; omega
  refine ⟨⟨fun k hk => ?_, m.good.rooms, by show (h.1 ++ r.1.take 1).length ≤ _; omega, m.good.many, m.good.each⟩, by show (h.1 ++ r.1.take 1).length ≤ _; omega, by show h.2.length ≤ _; omega, by show keysIn h.2 ≤ _; omega⟩
  rcases List.mem_append.mp hk with h | h
  · exact m.good.keys k h
  · exact (m.good.rooms r hr).1 k (List.mem_of_mem_take h)
theorem Mid.locks {h : House} (m : Mid h) {r : Room'} (hr : r ∈ h.2) : r.1.length ≤ 4000 := by
  have := (m.good.rooms r hr).2.2.2.1
  omega
end Kr
/-! layer KrD -/
namespace Kr
open PySem L2
/-! ## dicts whose keys are texts or ints -/
theorem VE.f {X : Cx} {e : Expr} {σ : St} {F F1 : Hp} {v : V} (h : VE X e σ F F v) (s : Same F F1) : VE X e σ F1 F1 v := h.mono ⟨s, Same.refl _, s, fun _ e n => absurd e n⟩
section
variable {X : Cx} {σ : St} {F H : Hp} {o e f value : Expr} {a : Addr} {kvs : List (Key × V)} {k : Key} {pos pos' apos cpos tpos : Pos} {D : Ends} {d dv : PyData} {i j n : Int}
/-- a key as data -/
def keyD : Key → PyData
  | .inl i => .int i
  | .inr x => .str x
end
/-! ## hands: how many keys of each kind -/
structure HandOf (kvs : List (Key × V)) (ks : List Str) (cnt : Str → Nat) : Prop where
  keys : kvs.map (·.1) = ks.map Sum.inr
  nd : ks.Nodup
  val : ∀ x, valV kvs (.inr x) = if x ∈ ks then some (.int (cnt x)) else none
  zero : ∀ x, x ∉ ks → cnt x = 0
theorem HandOf.nil : HandOf [] [] fun _ => 0 := ⟨rfl, List.nodup_nil, fun _ => rfl, fun _ _ => rfl⟩
theorem HandOf.get {kvs : List (Key × V)} {ks : List Str} {cnt : Str → Nat} (h : HandOf kvs ks cnt) (x : Str) : (valV kvs (.inr x)).getD (.int 0) = .int (cnt x : Int) := by
  rw [h.val x]
  split
  · rfl
  · rename_i hn
    rw [h.zero x hn]
    rfl
theorem HandOf.len {kvs : List (Key × V)} {ks : List Str} {cnt : Str → Nat} (h : HandOf kvs ks cnt) : kvs.length = ks.length := by
  have := congrArg List.length h.keys
  rwa [List.length_map, List.length_map] at this
theorem valV_none_of {kvs : List (Key × V)} {ks : List Str} {cnt : Str → Nat} (h : HandOf kvs ks cnt) {x : Str} (hx : x ∉ ks) : valV kvs (.inr x) = none := by
  rw [h.val x, if_neg hx]
theorem putK_keys {kvs : List (Key × V)} {k : Key} {v : V} (h : (valV kvs k).isSome = true) : (putK kvs k v).map (·.1) = kvs.map (·.1) := by
  unfold putK
  rw [valV_any, h, if_pos rfl, List.map_map]
  refine List.map_congr_left fun kv _ => ?_
  show (if kv.1 = k then (kv.1, v) else kv).1 = kv.1
  split <;> rfl
/-- one kind's number is set -/
theorem HandOf.put {kvs : List (Key × V)} {ks : List Str} {cnt : Str → Nat} (h : HandOf kvs ks cnt) (x : Str) (n : Nat) : HandOf (putK kvs (.inr x) (.int (n : Int))) (if x ∈ ks then ks else ks ++ [x]) (fun y => if y = x then n else cnt y) := by
  refine ⟨?_, ?_, fun y => ?_, fun y hy => ?_⟩
  · split
    · rename_i hx
      rw [putK_keys (by rw [h.val x, if_pos hx]; rfl)]
      exact h.keys
    · rename_i hx
      rw [putK_new _ (valV_none_of h hx), List.map_append, h.keys, List.map_append]
      rfl
  · split
    · exact h.nd
    · rename_i hx
      exact List.nodup_append.mpr ⟨h.nd, List.nodup_cons.mpr ⟨(fun h => nomatch h), List.nodup_nil⟩, fun a ha b hb e => by
        rw [List.mem_singleton] at hb
        subst hb; subst e
        exact hx ha⟩
  · rw [valV_put]
    by_cases e : y = x
    · subst e
      rw [if_pos rfl, if_pos (by split <;> simp_all), if_pos rfl]
    · rw [if_neg (fun z => e (Sum.inr.inj z)), h.val y, if_neg e]
      have : (y ∈ (if x ∈ ks then ks else ks ++ [x])) ↔ y ∈ ks := by
        split
        · exact Iff.rfl
        · rw [List.mem_append, List.mem_singleton]
          exact ⟨fun z => z.resolve_right e, .inl⟩
      simp only [this]
  · have hyx : y ≠ x := fun e => by
      subst e
      apply hy
      split <;> simp_all
    rw [if_neg hyx]
    refine h.zero y fun z => hy ?_
    split
    · exact z
    · exact List.mem_append_left _ z
end Kr
/-! layer KrE -/
namespace Kr
open PySem L2 PySem.Spec
/-! ## count and remove in lists of texts -/
def isTx (x : Str) : Value → Bool
  | .str y _ => y.cps.toList == x.cps.toList
  | _ => false
theorem isTx_str (y x : Str) (t : Tok) : isTx x (.str y t) = (y == x) := by
  show (y.cps.toList == x.cps.toList) = (y == x)
  by_cases e : y = x
  · subst e; simp
  · have : y.cps.toList ≠ x.cps.toList := fun z => e (by
      obtain ⟨a⟩ := y
      obtain ⟨b⟩ := x
      congr 1
      exact Array.toList_inj.mp z)
    rw [beq_eq_false_iff_ne.mpr this, beq_eq_false_iff_ne.mpr e]
theorem isTx_gives {x : Str} {t : Tok} : ∀ {us : List Value} {xs : List Str}, Vals (xs.map V.str) us → ∀ y ∈ us, MeetsSeq.EqGives y (.str x t) (isTx x y)
  | [], _, _, y, hy => nomatch hy
  | u :: us, [], h, _, _ => nomatch h
  | u :: us, z :: xs, h, y, hy => by
    cases h with
    | cons h1 h2 =>
      obtain ⟨t', rfl⟩ := h1
      rcases List.mem_cons.mp hy with e | e
      · subst e
        exact PySem.SeqRoads2.EqGives.str z x t' t
      · exact isTx_gives h2 y e
theorem isTx_count {x : Str} : ∀ {us : List Value} {xs : List Str}, Vals (xs.map V.str) us → us.countP (isTx x) = xs.count x
  | [], [], _ => rfl
  | [], z :: xs, h => nomatch h
  | u :: us, [], h => nomatch h
  | u :: us, z :: xs, h => by
    cases h with
    | cons h1 h2 =>
      obtain ⟨t', rfl⟩ := h1
      rw [List.countP_cons, List.count_cons, isTx_count h2, isTx_str]
section
variable {X : Cx}
def rCntS (K : PySem.W.Frag) : V → List V → Hp → VK → Prop := fun v vs H Q => ∃ (p : Addr) (xs : List Str) (x : Str), v = .ref p ∧ vs = [.str x] ∧ SqL K H p (xs.map V.str) ∧ Q (.int (xs.count x : Nat)) H
theorem mt_countS : MtR X "list.count" (rCntS X.K) := by
  intro pins s σ H v vs a us Q I ra rs h
  obtain ⟨p, xs, x, rfl, rfl, hs, q⟩ := h
  cases ra
  obtain ⟨u, rfl, t, rfl⟩ := rs.one
  obtain ⟨its, rv, ⟨⟨cls, dd, data, sl⟩, n, ho, hc, hdn, hd⟩, hlen⟩ := I.list hs
  simp only at hc hd
  subst hc hd
  have ec : its.toArray.toList.countP (isTx x) = xs.count x := isTx_count rv
  refine call_meets PySem.F.slot_list_count ⟨_, ho, rfl⟩ PySem.F.entry_list_count (PySem.F.args_list_count_2 _ _)
    (SeqAt.list_countAt p its.toArray n dd sl (.str x t) (isTx x)) ⟨ho, fun y hy => (isTx_gives rv y (by simpa using hy)).at _ _, .int (xs.count x : Nat), H, I.tok _, ⟨s.toks, ?_⟩, q⟩
  rw [ec]
/-- the first of its kind is taken out -/
def rRemS : V → List V → Hp → VK → Prop := fun v vs H Q => ∃ (l : Addr) (xs : List Str) (x : Str), v = .ref l ∧ vs = [.str x] ∧ H l = some (.lst (xs.map V.str)) ∧ x ∈ xs ∧ Q .non (upd H l (.lst ((xs.erase x).map V.str)))
theorem first_at {x : Str} : ∀ {xs : List Str}, x ∈ xs → ∃ j : Nat, xs[j]? = some x ∧ (∀ m : Nat, m < j → xs[m]? ≠ some x) ∧ xs.erase x = xs.eraseIdx j
  | z :: xs, h => by
    by_cases e : z = x
    · subst e
      exact ⟨0, rfl, fun m hm => absurd hm (Nat.not_lt_zero _), by simp⟩
    · obtain ⟨j, h1, h2, h3⟩ := first_at (xs := xs) ((List.mem_cons.mp h).resolve_left fun z' => e z'.symm)
      refine ⟨j + 1, by simpa using h1, fun m hm => ?_, ?_⟩
      · cases m with
        | zero => intro hh; exact e (by simpa using hh)
        | succ m => intro hh; exact h2 m (by omega) (by simpa using hh)
      · rw [List.erase_cons_tail (by simpa using e), h3]; rfl
theorem erase_mapS {α β : Type} (f : α → β) : ∀ (xs : List α) (j : Nat), (xs.map f).eraseIdx j = (xs.eraseIdx j).map f
  | [], _ => rfl
  | _ :: _, 0 => rfl
  | x :: xs, j + 1 => by
    show f x :: (xs.map f).eraseIdx j = f x :: (xs.eraseIdx j).map f
    rw [erase_mapS f xs j]
theorem mt_removeS : MtM X "list.remove" rRemS := by
  intro pins s σ H v vs a us Q I ra rs h
  obtain ⟨l, xs, x, rfl, rfl, hH, hx, q⟩ := h
  cases ra
  obtain ⟨u, rfl, t, rfl⟩ := rs.one
  obtain ⟨z, its, n, r, hl, e⟩ := I.lstM hH
  obtain ⟨j, hj, hno, he⟩ := first_at hx
  have hlen : its.length = xs.length := by rw [← hl, List.length_map]
  have hjn : j < xs.length := (List.getElem?_eq_some_iff.mp hj).1
  have itm : ∀ m (hm : m < its.length) y, xs[m]? = some y → ∃ t', its[m] = .str y t' := fun m hm y hy => by
    obtain ⟨u, hu, t', rfl⟩ := r.get (x := V.str y) (i := m) (by rw [List.getElem?_map, hy]; rfl)
    exact ⟨t', by rw [List.getElem?_eq_getElem hm] at hu; exact Option.some.inj hu⟩
  refine call_meets PySem.F.slot_list_remove ⟨_, e, rfl⟩ PySem.F.entry_list_remove (PySem.F.args_list_remove_2 _ _)
    (MeetsSeq.list_remove l its.toArray n (.str x t) (isTx x) (fun y hy => isTx_gives r y (by simpa using hy)) j (by rw [List.size_toArray]; omega) ?_ ?_ (by rw [List.size_toArray]; omega)) ⟨e, ?_⟩
  · obtain ⟨t', h1⟩ := itm j (by omega) x hj
    have hjs : j < its.toArray.size := by rw [List.size_toArray]; omega
    have h2 : its.toArray[j] = .str x t' := by simpa using h1
    rw [h2, isTx_str]
    exact beq_self_eq_true x
  · intro m hm hmj
    have hmx : m < xs.length := by omega
    obtain ⟨t', h1⟩ := itm m (by omega) _ (List.getElem?_eq_getElem hmx)
    have h2 : its.toArray[m] = .str xs[m] t' := by simpa using h1
    rw [h2, isTx_str]
    exact beq_eq_false_iff_ne.mpr fun z => hno m hmj (by rw [List.getElem?_eq_getElem hmx, z])
  · have rr := r.eraseIdx j
    have em : (xs.map V.str).eraseIdx j = (xs.erase x).map V.str := by rw [he, erase_mapS]
    rw [em] at rr
    refine ⟨.non, _, I.lset (its' := its.eraseIdx j) (t' := s.toks) hH e ?_ rr ?_, rfl, q⟩
    · show its.toArray.eraseIdxIfInBounds j = (its.eraseIdx j).toArray
      rw [List.eraseIdxIfInBounds_toArray]
    · have := List.length_erase_le (a := x) (l := xs)
      rw [List.length_map] at hl z ⊢
      omega
end
end Kr
/-! layer KrF -/
/-! layer KrG -/
namespace Kr
open PySem L2
/-! ## a hand that counts a list -/
def addK (ks : List Str) (x : Str) : List Str := if x ∈ ks then ks else ks ++ [x]
theorem addK_nodup {ks : List Str} (x : Str) (nd : ks.Nodup) : (addK ks x).Nodup := by
  unfold addK
  split
  · exact nd
  · rename_i hx
    exact List.nodup_append.mpr ⟨nd, List.nodup_cons.mpr ⟨(fun h => nomatch h), List.nodup_nil⟩, fun a ha b hb e => by
      rw [List.mem_singleton] at hb
      subst hb; subst e
      exact hx ha⟩
theorem mem_addK {ks : List Str} {x y : Str} : y ∈ addK ks x ↔ y ∈ ks ∨ y = x := by
  unfold addK
  split
  · rename_i hx
    exact ⟨.inl, fun h => h.elim id fun e => e ▸ hx⟩
  · rw [List.mem_append, List.mem_singleton]
/-- the keys in hand behind a room -/
def behindL (L : List Str) (r : Room') : List Str := r.1.foldl List.erase L ++ r.2
def stepL (h : House) (L : List Str) (i : Nat) : List Str := match h.2[i]? with | some r => behindL L r | none => L
def walkL (h : House) (order : List Nat) : List Str := order.foldl (stepL h) h.1
end Kr
/-! layer KrH -/
namespace Kr
open PySem L2
/-! ## orders gone -/
theorem count_foldl_erase (x : Str) : ∀ (ls L : List Str), (ls.foldl List.erase L).count x = L.count x - ls.count x
  | [], L => by simp
  | l :: ls, L => by
    rw [List.foldl_cons, count_foldl_erase x ls, List.count_cons]
    by_cases e : l = x
    · subst e
      rw [List.count_erase_self]
      simp
      omega
    · have e' : x ≠ l := fun z => e z.symm
      rw [List.count_erase_of_ne e']
      simp [e]
theorem may_mem {L lo : List Str} {j : Nat} {x : Str} (hm : (lo.all fun k => decide (lo.count k ≤ L.count k)) = true) (hj : lo[j]? = some x) : x ∈ (lo.take j).foldl List.erase L := by
  rw [← List.count_pos_iff, count_foldl_erase]
  have h1 : lo.count x ≤ L.count x := of_decide_eq_true (List.all_eq_true.mp hm x (List.mem_of_getElem? hj))
  have h2 : lo.count x = (lo.take j).count x + (lo.drop j).count x := by rw [← List.count_append, List.take_append_drop]
  have h3 : 0 < (lo.drop j).count x := by
    rw [List.count_pos_iff]
    exact List.mem_of_getElem? (i := 0) (by rw [List.getElem?_drop]; simpa using hj)
  omega
theorem foldl_erase_snoc {L lo : List Str} {j : Nat} {x : Str} (hj : lo[j]? = some x) : (lo.take (j + 1)).foldl List.erase L = ((lo.take j).foldl List.erase L).erase x := by
  rw [List.take_add_one, hj, List.foldl_append]
  rfl
theorem mem_foldl_erase {x : Str} : ∀ {ls L : List Str}, x ∈ ls.foldl List.erase L → x ∈ L
  | [], _, h => h
  | l :: ls, L, h => List.mem_of_mem_erase (mem_foldl_erase (ls := ls) (L := L.erase l) h)
theorem walkL_snoc {h : House} {order : List Nat} {i k : Nat} {r : Room'} (hi : order[i]? = some k) (hr : h.2[k]? = some r) : walkL h (order.take (i + 1)) = behindL (walkL h (order.take i)) r := by
  unfold walkL
  rw [List.take_add_one, hi, List.foldl_append]
  show stepL h _ k = _
  unfold stepL
  rw [hr]
/-- an order that can be gone -/
structure CanGo (h : House) (order : List Nat) : Prop where
  nd : order.Nodup
  step : ∀ i k, order[i]? = some k → ∃ r : Room', h.2[k]? = some r ∧ (r.1.all fun l => decide (r.1.count l ≤ (walkL h (order.take i)).count l)) = true
end Kr
/-! layer KrI -/
namespace Kr
open PySem L2
theorem leS_refl (x : Str) : leS x x = true := by
  have := srt_sorted [x, x]
  have e : srt [x, x] = [x, x] := List.perm_replicate (n := 2) (a := x) |>.mp (srt_perm [x, x])
  rw [e] at this
  exact List.rel_of_pairwise_cons this List.mem_cons_self
/-- each of ks as often as it is in L -/
def outL (ks L : List Str) : List Str := ks.flatMap fun k => List.replicate (L.count k) k
theorem count_outL {L : List Str} {x : Str} : ∀ {ks : List Str}, ks.Nodup → (outL ks L).count x = if x ∈ ks then L.count x else 0
  | [], _ => rfl
  | k :: ks, nd => by
    have nd' := List.nodup_cons.mp nd
    have ih := count_outL (L := L) (x := x) nd'.2
    unfold outL at ih ⊢
    rw [List.flatMap_cons, List.count_append, ih, List.count_replicate]
    by_cases e : k = x
    · subst e
      simp [nd'.1]
    · have e' : ¬ x = k := fun z => e z.symm
      simp [e, e']
theorem outL_sorted {L : List Str} : ∀ {ks : List Str}, ks.Pairwise (fun a b => leS a b = true) → (outL ks L).Pairwise (fun a b => leS a b = true)
  | [], _ => List.Pairwise.nil
  | k :: ks, h => by
    unfold outL
    rw [List.flatMap_cons]
    refine List.pairwise_append.mpr ⟨List.pairwise_replicate.mpr (.inr (leS_refl k)), outL_sorted h.of_cons, fun a ha b hb => ?_⟩
    rw [List.eq_of_mem_replicate ha]
    obtain ⟨k2, hk2, hb⟩ := List.mem_flatMap.mp hb
    rw [List.eq_of_mem_replicate hb]
    exact List.rel_of_pairwise_cons h hk2
theorem outL_eq {ks L : List Str} (nd : ks.Nodup) (h : ∀ x ∈ L, x ∈ ks) : outL (srt ks) L = srt L := by
  refine sorted_unique ?_ (outL_sorted (srt_sorted _)) (srt_sorted _)
  refine List.Perm.trans ?_ (srt_perm L).symm
  rw [List.perm_iff_count]
  intro x
  rw [count_outL ((srt_perm ks).nodup_iff.mpr nd)]
  split
  · rfl
  · rename_i hx
    exact (List.count_eq_zero.mpr fun z => hx ((srt_perm ks).mem_iff.mpr (h x z))).symm
end Kr
/-! layer A1 -/
namespace Kr
open PySem L2
/-! ## trees of our own: each node at its address -/
inductive Kd where
  | lst
  | tup
  | dct (ks : List Key)
  | dctT (ks : List (List Key))
  | obj (C dx : Addr) (fs : List Str)
inductive Tr where
  | d (x : PyData)
  | nd (k : Kd) (a : Addr) (xs : List Tr)
def Kd.ho : Kd → List V → HO
  | .lst, vs => .lst vs
  | .tup, vs => .tup vs
  | .dct ks, vs => .dK (ks.zip vs)
  | .dctT ks, vs => .dT (ks.zip vs)
  | .obj C dx fs, vs => .ins C dx (fs.zip vs)
def Kd.more : Kd → List Addr
  | .obj _ dx _ => [dx]
  | _ => []
def Kd.side (H : Hp) (a : Addr) (n : Nat) : Kd → Prop
  | .obj _ dx fs => H dx = some (.own a) ∧ fs.length = n
  | .dct ks => ks.length = n
  | .dctT ks => ks.length = n
  | _ => True
def Tr.root : Tr → Option Addr
  | .d _ => none
  | .nd _ a _ => some a
mutual
def Tr.addrs : Tr → List Addr
  | .d _ => []
  | .nd k a xs => a :: (k.more ++ Tr.addrsL xs)
def Tr.addrsL : List Tr → List Addr
  | [] => []
  | t :: ts => t.addrs ++ Tr.addrsL ts
end
mutual
def TrOk (F H : Hp) : Tr → V → Prop
  | .d x, v => Da F x v
  | .nd k a xs, v => v = .ref a ∧ ∃ vs, H a = some (k.ho vs) ∧ k.side H a xs.length ∧ TrAll F H xs vs
def TrAll (F H : Hp) : List Tr → List V → Prop
  | [], vs => vs = []
  | t :: ts, vs => ∃ v r, vs = v :: r ∧ TrOk F H t v ∧ TrAll F H ts r
end
theorem Kd.side_mono {F H : Hp} {k : Kd} {a : Addr} {n : Nat} {H2 : Hp} (h : k.side H a n) (e : ∀ q ∈ k.more, ∀ o, H q = some o → H2 q = some o) : k.side H2 a n := by
  cases k with
  | obj C dx fs => exact ⟨e dx (List.mem_singleton.mpr rfl) _ h.1, h.2⟩
  | _ => exact h
mutual
theorem TrOk.mono {F H F2 H2 : Hp} (s : Same F F2) : ∀ {t : Tr} {v : V}, TrOk F H t v → (∀ q ∈ t.addrs, ∀ o, H q = some o → H2 q = some o) → TrOk F2 H2 t v
  | .d x, v, h, _ => Da.mono s h
  | .nd k a xs, v, h, e => by
    obtain ⟨h0, vs, h1, h2, h3⟩ := (show v = .ref a ∧ ∃ vs, H a = some (k.ho vs) ∧ k.side H a xs.length ∧ TrAll F H xs vs from h)
    have e' : ∀ q ∈ a :: (k.more ++ Tr.addrsL xs), ∀ o, H q = some o → H2 q = some o := e
    exact (show v = .ref a ∧ ∃ vs, H2 a = some (k.ho vs) ∧ k.side H2 a xs.length ∧ TrAll F2 H2 xs vs from ⟨h0, vs, e' a (List.mem_cons_self ..) _ h1, Kd.side_mono (F := F) h2 fun q hq => e' q (List.mem_cons_of_mem _ (List.mem_append_left _ hq)), TrAll.mono s h3 fun q hq => e' q (List.mem_cons_of_mem _ (List.mem_append_right _ hq))⟩)
theorem TrAll.mono {F H F2 H2 : Hp} (s : Same F F2) : ∀ {ts : List Tr} {vs : List V}, TrAll F H ts vs → (∀ q ∈ Tr.addrsL ts, ∀ o, H q = some o → H2 q = some o) → TrAll F2 H2 ts vs
  | [], _, h, _ => h
  | t :: ts, vs, h, e => by
    obtain ⟨v, r, h0, h1, h2⟩ := (show ∃ v r, vs = v :: r ∧ TrOk F H t v ∧ TrAll F H ts r from h)
    have e' : ∀ q ∈ t.addrs ++ Tr.addrsL ts, ∀ o, H q = some o → H2 q = some o := e
    exact (show ∃ v r, vs = v :: r ∧ TrOk F2 H2 t v ∧ TrAll F2 H2 ts r from ⟨v, r, h0, h1.mono s fun q hq => e' q (List.mem_append_left _ hq), TrAll.mono s h2 fun q hq => e' q (List.mem_append_right _ hq)⟩)
end
/-! ## abstract values, cells, states -/
inductive AVal where
  | d (x : PyData)
  | r (n : Nat)
  | s (K : PySem.W.Frag) (ns : List Int)
  /-- the node at p of the tree n, at a path there -/
  | a (p : Addr) (n : Nat) (pt : List Nat)
inductive Cell where
  | lst (ds : List PyData)
  | dK (kvs : List (Key × PyData))
  | pool (n : Nat)
  | fz (x : PyData)
  | gone
  | nl (xs : List AVal)
  | nt (xs : List AVal)
  | nd (kvs : List (Key × AVal))
  | dl (od : Obj) (es : List (Key × V)) (kvs : List (Key × PyData))
  | tr (t : Tr)
def Cell.live : Cell → Bool
  | .fz _ => false
  | .gone => false
  | .tr _ => false
  | _ => true
def Cell.ads : Cell → List Addr
  | .tr t => t.addrs
  | _ => []
structure AS where
  sl : List (Option AVal)
  cs : List Cell
def VOk (ad : List Addr) (F : Hp) : AVal → V → Prop
  | .d x, v => Da F x v
  | .r n, v => ∃ a, ad[n]? = some a ∧ v = .ref a
  | .s K ns, v => ∃ a, v = .ref a ∧ SqL K F a (ns.map V.int)
  | .a p _ _, v => v = .ref p
def KvOk (F : Hp) : List (Key × PyData) → List (Key × V) → Prop := Paired fun p q => p.1 = q.1 ∧ Da F p.2 q.2
def KrOk (ad : List Addr) (F : Hp) : List (Key × AVal) → List (Key × V) → Prop := Paired fun p q => p.1 = q.1 ∧ VOk ad F p.2 q.2
def COk (ad : List Addr) (F H : Hp) (a : Addr) : Cell → Prop
  | .lst ds => ∃ vs, H a = some (.lst vs) ∧ DaAll F ds vs
  | .dK kvs => ∃ es, H a = some (.dK es) ∧ KvOk F kvs es
  | .pool n => Pool H a n
  | .fz x => Da F x (.ref a)
  | .gone => True
  | .nl xs => ∃ vs, H a = some (.lst vs) ∧ Paired (VOk ad F) xs vs
  | .nt xs => ∃ vs, H a = some (.tup vs) ∧ Paired (VOk ad F) xs vs
  | .nd kvs => ∃ es, H a = some (.dK es) ∧ KrOk ad F kvs es
  | .dl od es kvs => H a = some (.frz od (.dK es)) ∧ KvOk F kvs es
  | .tr t => t.root = some a ∧ TrOk F H t (.ref a)
/-- where a def began: the cells handed in, both heaps -/
structure Bs where
  S : List Addr
  F0 : Hp
  H0 : Hp
  T : List Addr
/-- the addresses of our trees stand apart -/
structure Inn (B : Bs) (ad : List Addr) (F H : Hp) (cs : List Cell) : Prop where
  nd : (cs.flatMap Cell.ads).Nodup
  off : ∀ q ∈ cs.flatMap Cell.ads, ∀ i : Nat, ad[i]? = some q → cs[i]? = some Cell.gone ∨ ∃ t : Tr, cs[i]? = some (Cell.tr t) ∧ t.root = some q
  fr : ∀ q ∈ cs.flatMap Cell.ads, F q = none ∧ H q ≠ none
  own : ∀ q ∈ cs.flatMap Cell.ads, q ∈ B.S ∨ q ∈ B.T ∨ B.H0 q = none
  old : ∀ b ∈ B.T, B.H0 b ≠ none
structure Rl (B : Bs) (ad : List Addr) (F H : Hp) (a : AS) (σ : St) : Prop where
  ff : Same B.F0 F
  fh : Same F H
  hh : ∀ b o, b ∉ B.S → b ∉ B.T → B.H0 b = some o → H b = some o
  al : ∀ b, b ∈ B.S ∨ b ∈ B.T → H b ≠ none
  new : ∀ b, B.F0 b = none → B.H0 b ≠ none → F b = none
  pre : ∃ ad', ad = B.S ++ ad' ∧ ∀ b ∈ ad', B.H0 b = none
  nd : ad.Nodup
  len : ad.length = a.cs.length
  cel : ∀ (i : Nat) (p : Addr) (c : Cell), ad[i]? = some p → a.cs[i]? = some c → H p ≠ none ∧ (c.live = true → F p = none) ∧ COk ad F H p c
  sln : a.sl.length = σ.length
  slt : ∀ (k : Nat) (x : AVal), a.sl[k]? = some (some x) → ∃ v, σ[k]? = some (some v) ∧ VOk ad F x v
  inn : Inn B ad F H a.cs
theorem ne_none {H : Hp} {p : Addr} {o : HO} (h : H p = some o) : H p ≠ none := by rw [h]; exact fun z => nomatch z
theorem some_of_ne {H : Hp} {p : Addr} (h : H p ≠ none) : ∃ o, H p = some o := by
  cases e : H p with
  | none => exact absurd e h
  | some o => exact ⟨o, rfl⟩
theorem Same.ne {H H2 : Hp} {p : Addr} (s : Same H H2) (h : H p ≠ none) : H2 p ≠ none := fun z => h (s.free z)
theorem Paired.imp {α β : Type} {R S : α → β → Prop} : ∀ {xs : List α} {ys : List β}, Paired R xs ys → (∀ x y, R x y → S x y) → Paired S xs ys
  | _, _, .nil, _ => .nil
  | _, _, .cons h t, k => .cons (k _ _ h) (Paired.imp t k)
theorem ext_get {ad ad2 : List Addr} (e : ∃ m, ad2 = ad ++ m) {n : Nat} {a : Addr} (h : ad[n]? = some a) : ad2[n]? = some a := by
  obtain ⟨m, rfl⟩ := e
  rw [List.getElem?_append_left (List.getElem?_eq_some_iff.mp h).1]
  exact h
abbrev Ext (ad ad2 : List Addr) : Prop := ∃ m, ad2 = ad ++ m
theorem Ext.refl (ad : List Addr) : Ext ad ad := ⟨[], by simp⟩
theorem Ext.trans {a b c : List Addr} (h : Ext a b) (k : Ext b c) : Ext a c := by
  obtain ⟨m, rfl⟩ := h
  obtain ⟨n, rfl⟩ := k
  exact ⟨m ++ n, by simp⟩
theorem VOk.mono {ad ad2 : List Addr} {F F2 : Hp} {x : AVal} {v : V} (h : VOk ad F x v) (e : Ext ad ad2) (s : Same F F2) : VOk ad2 F2 x v := by
  cases x with
  | d x => exact Da.mono s h
  | r n => obtain ⟨a, h1, h2⟩ := h; exact ⟨a, ext_get e h1, h2⟩
  | s K ns => obtain ⟨a, h1, h2⟩ := h; exact ⟨a, h1, s.seq h2⟩
  | a p n pt => exact h
theorem COk.mono {ad ad2 : List Addr} {F F2 H H2 : Hp} {p : Addr} {c : Cell} (h : COk ad F H p c) (e : Ext ad ad2) (s : Same F F2) (k : ∀ o, H p = some o → H2 p = some o) (kt : ∀ q ∈ c.ads, ∀ o, H q = some o → H2 q = some o := by exact fun _ h => nomatch h) : COk ad2 F2 H2 p c := by
  cases c with
  | lst ds => obtain ⟨vs, h1, h2⟩ := h; exact ⟨vs, k _ h1, h2.mono s⟩
  | dK kvs => obtain ⟨vs, h1, h2⟩ := h; exact ⟨vs, k _ h1, Paired.imp h2 fun _ _ h => ⟨h.1, h.2.mono s⟩⟩
  | pool n => obtain ⟨c, m, t, h1, h2⟩ := h; exact ⟨c, m, t, k _ h1, h2⟩
  | fz x => exact Da.mono s h
  | gone => trivial
  | nl xs => obtain ⟨vs, h1, h2⟩ := h; exact ⟨vs, k _ h1, Paired.imp h2 fun _ _ h => h.mono e s⟩
  | nt xs => obtain ⟨vs, h1, h2⟩ := h; exact ⟨vs, k _ h1, Paired.imp h2 fun _ _ h => h.mono e s⟩
  | nd kvs => obtain ⟨vs, h1, h2⟩ := h; exact ⟨vs, k _ h1, Paired.imp h2 fun _ _ h => ⟨h.1, h.2.mono e s⟩⟩
  | dl od es kvs => obtain ⟨h1, h2⟩ := h; exact ⟨k _ h1, Paired.imp h2 fun _ _ h => ⟨h.1, h.2.mono s⟩⟩
  | tr t => obtain ⟨h1, h2⟩ := h; exact ⟨h1, h2.mono s kt⟩
theorem mem_ads {cs : List Cell} {i : Nat} {c : Cell} {q : Addr} (hc : cs[i]? = some c) (hq : q ∈ c.ads) : q ∈ cs.flatMap Cell.ads := List.mem_flatMap.mpr ⟨c, List.mem_of_getElem? hc, hq⟩
section
variable {B : Bs} {ad : List Addr} {F H F2 H2 : Hp} {a : AS} {σ : St} {p : Addr} {o : HO} {c : Cell} {i k : Nat} {x : AVal} {v : V}
theorem Rl.there {b : Addr} (r : Rl B ad F H a σ) (n : B.H0 b ≠ none) : H b ≠ none := by
  by_cases hb : b ∈ B.S ∨ b ∈ B.T
  · exact r.al b hb
  · obtain ⟨o, ho⟩ := some_of_ne n
    exact ne_none (r.hh b o (fun z => hb (.inl z)) (fun z => hb (.inr z)) ho)
theorem Inn.gr {cs : List Cell} (q : Inn B ad F H cs) (g : Gr F H F2 H2) : Inn B ad F2 H2 cs :=
  ⟨q.nd, q.off, fun x hx => ⟨g.new x (q.fr x hx).1 (q.fr x hx).2, Same.ne g.hh (q.fr x hx).2⟩, q.own, q.old⟩
theorem Rl.gr (r : Rl B ad F H a σ) (g : Gr F H F2 H2) : Rl B ad F2 H2 a σ where
  ff := r.ff.trans g.ff
  fh := g.fh
  hh := fun b o hb ht e => g.hh _ _ (r.hh b o hb ht e)
  al := fun b hb => Same.ne g.hh (r.al b hb)
  new := fun b e n => g.new b (r.new b e n) (r.there n)
  pre := r.pre
  nd := r.nd
  len := r.len
  cel := fun i p c h1 h2 => by
    obtain ⟨n, l, ok⟩ := r.cel i p c h1 h2
    exact ⟨Same.ne g.hh n, fun q => g.new p (l q) n, ok.mono (Ext.refl _) g.ff (fun o e => g.hh _ _ e) fun q _ o e => g.hh _ _ e⟩
  sln := r.sln
  slt := fun k x h => by
    obtain ⟨v, h1, h2⟩ := r.slt k x h
    exact ⟨v, h1, h2.mono (Ext.refl _) g.ff⟩
  inn := r.inn.gr g
theorem Rl.mem (r : Rl B ad F H a σ) (h : p ∈ ad) : H p ≠ none := by
  obtain ⟨i, hi⟩ := List.mem_iff_getElem?.mp h
  have : i < a.cs.length := by rw [← r.len]; exact (List.getElem?_eq_some_iff.mp hi).1
  exact (r.cel i p _ hi (List.getElem?_eq_getElem this)).1
theorem Rl.fresh (r : Rl B ad F H a σ) (h : H p = none) : B.H0 p = none ∧ p ∉ B.S ∧ p ∉ ad := by
  have h1 : p ∉ B.S := fun z => r.al p (.inl z) h
  have h2 : p ∉ B.T := fun z => r.al p (.inr z) h
  refine ⟨?_, h1, fun z => r.mem z h⟩
  cases e : B.H0 p with
  | none => rfl
  | some o => rw [r.hh p o h1 h2 e] at h; cases h
theorem Rl.offT (r : Rl B ad F H a σ) (h : H p = none) : p ∉ B.T := fun z => r.al p (.inr z) h
theorem Rl.offI {q : Addr} (r : Rl B ad F H a σ) (h : H p = none) (hq : q ∈ a.cs.flatMap Cell.ads) : q ≠ p := fun z => (r.inn.fr q hq).2 (z ▸ h)
theorem flat_snoc {cs : List Cell} {c : Cell} (h : c.ads = []) : (cs ++ [c]).flatMap Cell.ads = cs.flatMap Cell.ads := by simp [h]
theorem Inn.push {cs : List Cell} (r : Inn B ad F H cs) (hp : H p = none) (hl : ad.length = cs.length) (hc : c.ads = []) : Inn B (ad ++ [p]) F (upd H p o) (cs ++ [c]) := by
  refine ⟨by rw [flat_snoc hc]; exact r.nd, fun q hq i hi => ?_, fun q hq => ?_, fun q hq => r.own q (by rw [flat_snoc hc] at hq; exact hq), r.old⟩
  · rw [flat_snoc hc] at hq
    have hqp : q ≠ p := fun z => (r.fr q hq).2 (z ▸ hp)
    by_cases hi2 : i < ad.length
    · rw [List.getElem?_append_left hi2] at hi
      rw [List.getElem?_append_left (by omega)]
      exact r.off q hq i hi
    · rw [List.getElem?_append_right (by omega)] at hi
      have : q = p := by
        have := List.mem_of_getElem? hi
        simpa using this
      exact absurd this hqp
  · rw [flat_snoc hc] at hq
    have hqp : q ≠ p := fun z => (r.fr q hq).2 (z ▸ hp)
    exact ⟨(r.fr q hq).1, by rw [upd_ne hqp]; exact (r.fr q hq).2⟩
theorem flat_set {cs : List Cell} {i : Nat} {c : Cell} (h : c.ads = []) : ((cs.set i c).flatMap Cell.ads).Sublist (cs.flatMap Cell.ads) := by
  induction cs generalizing i with
  | nil => simp
  | cons d cs ih =>
    cases i with
    | zero => simp [h]
    | succ i => simp only [List.set_cons_succ, List.flatMap_cons]; exact List.Sublist.append (List.Sublist.refl _) ih
theorem Inn.set {cs : List Cell} {H2 : Hp} {c0 : Cell} (r : Inn B ad F H cs) (hi : ad[i]? = some p) (h0 : cs[i]? = some c0) (hl : c0.live = true) (hc : c.ads = []) (hF : ∀ q, q ≠ p → F q = none → F2 q = none) (hH : ∀ q, q ≠ p → H q ≠ none → H2 q ≠ none) : Inn B ad F2 H2 (cs.set i c) := by
  have sub : ∀ q, q ∈ (cs.set i c).flatMap Cell.ads → q ∈ cs.flatMap Cell.ads := fun q hq => (flat_set hc).subset hq
  have ne : ∀ q, q ∈ (cs.set i c).flatMap Cell.ads → q ≠ p := fun q hq z => by
    subst z
    rcases r.off q (sub q hq) i hi with e | ⟨t, e, _⟩
    · rw [h0] at e; cases e; cases hl
    · rw [h0] at e; cases e; cases hl
  refine ⟨r.nd.sublist (flat_set hc), fun q hq j hj => ?_, fun q hq => ⟨hF q (ne q hq) (r.fr q (sub q hq)).1, hH q (ne q hq) (r.fr q (sub q hq)).2⟩, fun q hq => r.own q (sub q hq), r.old⟩
  have hji : j ≠ i := fun z => by
    subst z
    rw [hi] at hj
    exact ne q hq (Option.some.inj hj).symm
  rw [List.getElem?_set_ne (fun z => hji z.symm)]
  exact r.off q (sub q hq) j hj
theorem live_ads {c : Cell} (h : c.live = true) : c.ads = [] := by
  cases c with
  | tr t => cases h
  | _ => rfl
theorem Rl.push (r : Rl B ad F H a σ) (h : H p = none) (hc : COk (ad ++ [p]) F (upd H p o) p c) (hcl : c.live = true := by first | assumption | rfl) : Rl B (ad ++ [p]) F (upd H p o) ⟨a.sl, a.cs ++ [c]⟩ σ := by
  obtain ⟨f1, f2, f3⟩ := r.fresh h
  have up : ∀ b, b ≠ p → upd H p o b = H b := fun b hb => upd_ne hb
  refine ⟨r.ff, same_mut r.fh (r.fh.free h), fun b u hb ht e => ?_, fun b hb => ?_, r.new, ?_, ?_, by simp [r.len], ?_, r.sln, fun k x hx => ?_, r.inn.push h r.len (live_ads hcl)⟩
  · rw [up b (ne_of_none e f1)]; exact r.hh b u hb ht e
  · rw [up b (fun z => r.al b hb (z ▸ h))]; exact r.al b hb
  · obtain ⟨ad', rfl, h1⟩ := r.pre
    refine ⟨ad' ++ [p], by simp, fun b hb => ?_⟩
    rcases List.mem_append.mp hb with hb | hb
    · exact h1 b hb
    · rw [List.mem_singleton] at hb; subst hb; exact f1
  · rw [List.nodup_append]
    exact ⟨r.nd, List.nodup_cons.mpr ⟨(fun z => nomatch z), List.nodup_nil⟩, fun b hb q hq e => by
      rw [List.mem_singleton] at hq; subst hq; subst e; exact f3 hb⟩
  · intro i q c' h1 h2
    by_cases hi : i < ad.length
    · rw [List.getElem?_append_left hi] at h1
      rw [List.getElem?_append_left (by have := r.len; omega)] at h2
      obtain ⟨n, l, ok⟩ := r.cel i q c' h1 h2
      have hq : q ≠ p := fun z => by subst z; exact n h
      exact ⟨by rw [up q hq]; exact n, l, ok.mono ⟨[p], rfl⟩ (Same.refl _) (fun o' e => by rw [up q hq]; exact e) fun q' hq' o' e => by rw [up q' (r.offI h (mem_ads h2 hq'))]; exact e⟩
    · have hi2 : i = ad.length := by
        have := (List.getElem?_eq_some_iff.mp h1).1
        simp at this; omega
      subst hi2
      rw [List.getElem?_append_right (Nat.le_refl _)] at h1
      rw [List.getElem?_append_right (by have := r.len; omega)] at h2
      have e1 : p = q := by simpa using h1
      have e2 : c = c' := by simpa [r.len] using h2
      subst e1; subst e2
      exact ⟨ne_none upd_same, fun _ => r.fh.free h, hc⟩
  · obtain ⟨v, h1, h2⟩ := r.slt k x hx
    exact ⟨v, h1, h2.mono ⟨[p], rfl⟩ (Same.refl _)⟩
theorem nodup_get {l : List Addr} (nd : l.Nodup) {i j : Nat} {p : Addr} (h1 : l[i]? = some p) (h2 : l[j]? = some p) : i = j := by
  exact (List.getElem?_inj (List.getElem?_eq_some_iff.mp h1).1 nd).mp (h1.trans h2.symm)
/-- a cell of our own changes -/
theorem Rl.put {c0 : Cell} (r : Rl B ad F H a σ) (hi : ad[i]? = some p) (h0 : a.cs[i]? = some c0) (hl : c0.live = true) (hc : COk ad F (upd H p o) p c) (hcl : c.ads = [] := by rfl) : Rl B ad F (upd H p o) ⟨a.sl, a.cs.set i c⟩ σ := by
  obtain ⟨n0, l0, ok0⟩ := r.cel i p c0 hi h0
  have hF := l0 hl
  have up : ∀ b, b ≠ p → upd H p o b = H b := fun b hb => upd_ne hb
  have offp : ∀ q, q ∈ a.cs.flatMap Cell.ads → q ≠ p := fun q hq z => by
    subst z
    rcases r.inn.off q hq i hi with e | ⟨t, e, _⟩
    · rw [h0] at e; cases e; cases hl
    · rw [h0] at e; cases e; cases hl
  refine ⟨r.ff, same_mut r.fh hF, fun b u hb ht e => ?_, fun b hb => ?_, r.new, r.pre, r.nd, by simp [r.len], ?_, r.sln, r.slt, r.inn.set hi h0 hl hcl (fun q _ h => h) fun q hq h => by rw [up q hq]; exact h⟩
  · have : b ≠ p := fun z => by
      subst z
      obtain ⟨ad', rfl, h1⟩ := r.pre
      rcases List.mem_append.mp (List.mem_of_getElem? hi) with h | h
      · exact hb h
      · rw [h1 b h] at e; cases e
    rw [up b this]; exact r.hh b u hb ht e
  · by_cases z : b = p
    · subst z; exact ne_none upd_same
    · rw [up b z]; exact r.al b hb
  · intro j q c' h1 h2
    by_cases hij : j = i
    · subst hij
      have e1 : p = q := by rw [hi] at h1; simpa using h1
      subst e1
      have hlt := (List.getElem?_eq_some_iff.mp h0).1
      have e2 : c = c' := by
        rw [List.getElem?_set_self hlt] at h2; simpa using h2
      subst e2
      exact ⟨ne_none upd_same, fun _ => hF, hc⟩
    · rw [List.getElem?_set_ne (fun z => hij z.symm)] at h2
      obtain ⟨n, l, ok⟩ := r.cel j q c' h1 h2
      have hq : q ≠ p := fun z => by subst z; exact hij (nodup_get r.nd h1 hi)
      exact ⟨by rw [up q hq]; exact n, l, ok.mono (Ext.refl _) (Same.refl _) (fun o' e => by rw [up q hq]; exact e) fun q' hq' o' e => by rw [up q' (offp q' (mem_ads h2 hq'))]; exact e⟩
/-- a cell of our own is told for good -/
theorem Rl.freeze {c0 : Cell} {y : PyData} (r : Rl B ad F H a σ) (hi : ad[i]? = some p) (h0 : a.cs[i]? = some c0) (hl : c0.live = true) (hn : B.S.length ≤ i) (ho : H p = some o) (hd : Da (upd F p o) y (.ref p)) : Rl B ad (upd F p o) H ⟨a.sl, a.cs.set i (.fz y)⟩ σ := by
  obtain ⟨n0, l0, ok0⟩ := r.cel i p c0 hi h0
  have hF := l0 hl
  have sF : Same F (upd F p o) := same_upd hF
  have hp0 : B.H0 p = none := by
    obtain ⟨ad', e, h1⟩ := r.pre
    rw [e, List.getElem?_append_right hn] at hi
    exact h1 p (List.mem_of_getElem? hi)
  refine ⟨r.ff.trans sF, Same.cell r.fh ho, r.hh, r.al, fun b e n => ?_, r.pre, r.nd, by simp [r.len], ?_, r.sln, fun k x hx => ?_, r.inn.set hi h0 hl rfl (fun q hq h => by rw [upd_ne hq]; exact h) fun q hq h => h⟩
  · have : b ≠ p := fun z => by subst z; exact n hp0
    rw [upd_ne this]; exact r.new b e n
  · intro j q c' h1 h2
    by_cases hij : j = i
    · subst hij
      have e1 : p = q := by rw [hi] at h1; simpa using h1
      subst e1
      have hlt := (List.getElem?_eq_some_iff.mp h0).1
      have e2 : Cell.fz y = c' := by
        rw [List.getElem?_set_self hlt] at h2; simpa using h2
      subst e2
      exact ⟨n0, (fun z => Bool.noConfusion z), hd⟩
    · rw [List.getElem?_set_ne (fun z => hij z.symm)] at h2
      obtain ⟨n, l, ok⟩ := r.cel j q c' h1 h2
      have hq : q ≠ p := fun z => by subst z; exact hij (nodup_get r.nd h1 hi)
      exact ⟨n, fun z => by rw [upd_ne hq]; exact l z, ok.mono (Ext.refl _) sF (fun o' e => e) fun _ _ o' e => e⟩
  · obtain ⟨v, h1, h2⟩ := r.slt k x hx
    exact ⟨v, h1, h2.mono (Ext.refl _) sF⟩
theorem Rl.set (r : Rl B ad F H a σ) (h : VOk ad F x v) : Rl B ad F H ⟨a.sl.set k (some x), a.cs⟩ (σ.set k (some v)) := by
  refine ⟨r.ff, r.fh, r.hh, r.al, r.new, r.pre, r.nd, r.len, r.cel, by simp [r.sln], fun j y hy => ?_, r.inn⟩
  by_cases hj : j = k
  · subst hj
    have hlt : j < a.sl.length := by
      have := (List.getElem?_eq_some_iff.mp hy).1
      simpa using this
    have e : x = y := by
      rw [List.getElem?_set_self hlt] at hy; simpa using hy
    subst e
    exact ⟨v, List.getElem?_set_self (by rw [← r.sln]; exact hlt), h⟩
  · have hy' : a.sl[j]? = some (some y) := by
      have : (a.sl.set k (some x))[j]? = a.sl[j]? := List.getElem?_set_ne (fun z => hj z.symm)
      rw [← this]; exact hy
    obtain ⟨w, h1, h2⟩ := r.slt j y hy'
    exact ⟨w, by rw [List.getElem?_set_ne (fun z => hj z.symm)]; exact h1, h2⟩
end
end Kr
/-! layer A2 -/
namespace Kr
open PySem L2
/-! ## judgements over abstract states -/
abbrev VQ := AVal → AS → Prop
abbrev TEA := AS → VQ → Prop
abbrev TTA := AS → (Bool → AS → Prop) → Prop
abbrev TLA := AS → (List AVal → AS → Prop) → Prop
abbrev TNA := AS → (Cell → AS → Prop) → Prop
abbrev TGA := AVal → AS → (AS → Prop) → Prop
structure DA where
  nx : AS → Prop
  rt : AVal → AS → Prop
  bk : AS → Prop
  ct : AS → Prop
abbrev TSA := DA → AS → Prop
def Post (B : Bs) (ad : List Addr) (F : Hp) (σ : St) (Q : VQ) : VK := fun v H2 => ∃ ad2 F2 x a2, Ext ad ad2 ∧ Same F F2 ∧ Rl B ad2 F2 H2 a2 σ ∧ VOk ad2 F2 x v ∧ Q x a2
def PostT (B : Bs) (ad : List Addr) (F : Hp) (σ : St) (Q : Bool → AS → Prop) : Bool → Hp → Prop := fun b H2 => ∃ ad2 F2 a2, Ext ad ad2 ∧ Same F F2 ∧ Rl B ad2 F2 H2 a2 σ ∧ Q b a2
def PostL (B : Bs) (ad : List Addr) (F : Hp) (σ : St) (n : Nat) (Q : List AVal → AS → Prop) : List V → Hp → Prop := fun vs H2 => ∃ ad2 F2 xs a2, Ext ad ad2 ∧ Same F F2 ∧ Rl B ad2 F2 H2 a2 σ ∧ Paired (VOk ad2 F2) xs vs ∧ xs.length = n ∧ Q xs a2
/-- a new cell -/
def PostN (B : Bs) (ad : List Addr) (F : Hp) (σ : St) (Q : Cell → AS → Prop) : VK := fun v H2 => ∃ ad2 F2 c a2 p H1 o, Ext ad ad2 ∧ Same F F2 ∧ Rl B ad2 F2 H1 a2 σ ∧ v = .ref p ∧ H1 p = none ∧ H2 = upd H1 p o ∧ COk ad2 F2 H2 p c ∧ c.live = true ∧ Q c a2
structure EA (X : Cx) (B : Bs) (e : Expr) (t : TEA) : Prop where
  run : ∀ ad F H s σ Q, Rl B ad F H s σ → t s Q → WE X e σ H (Post B ad F σ Q)
structure EN (X : Cx) (B : Bs) (e : Expr) (t : TNA) : Prop where
  run : ∀ ad F H s σ Q, Rl B ad F H s σ → t s Q → WE X e σ H (PostN B ad F σ Q)
structure ET (X : Cx) (B : Bs) (e : Expr) (t : TTA) : Prop where
  run : ∀ ad F H s σ Q, Rl B ad F H s σ → t s Q → WT X e σ H (PostT B ad F σ Q)
structure EW (X : Cx) (B : Bs) (e : Expr) (t : TTA) : Prop where
  run : ∀ ad F H s σ Q, Rl B ad F H s σ → t s Q → WW X e σ H (PostT B ad F σ Q)
structure EL (X : Cx) (B : Bs) (es : List Expr) (t : TLA) : Prop where
  run : ∀ ad F H s σ Q, Rl B ad F H s σ → t s Q → WA X es σ H (PostL B ad F σ es.length Q)
def liftD (B : Bs) (D : DA) : Ends where
  nx := fun σ H => ∃ ad F s, Rl B ad F H s σ ∧ D.nx s
  rt := fun v H => ∃ ad F x s σ, Rl B ad F H s σ ∧ VOk ad F x v ∧ D.rt x s
  bk := fun σ H => ∃ ad F s, Rl B ad F H s σ ∧ D.bk s
  ct := fun σ H => ∃ ad F s, Rl B ad F H s σ ∧ D.ct s
structure SA (X : Cx) (B : Bs) (st : Stmt) (t : TSA) : Prop where
  run : ∀ D s, t D s → ∀ ad F H σ, Rl B ad F H s σ → WS X st (liftD B D) σ H
structure SS (X : Cx) (B : Bs) (st : List Stmt) (t : TSA) : Prop where
  run : ∀ D s, t D s → ∀ ad F H σ, Rl B ad F H s σ → WSs X st (liftD B D) σ H
def onSome {α : Type} (o : Option α) (k : α → Prop) : Prop := ∃ v, o = some v ∧ k v
theorem onSome_some {α : Type} {v : α} {k : α → Prop} : onSome (some v) k = k v := propext ⟨fun ⟨_, e, h⟩ => by cases e; exact h, fun h => ⟨v, rfl, h⟩⟩
def AVal.int? : AVal → Option Int | .d (.int i) => some i | _ => none
def AVal.str? : AVal → Option Str | .d (.str i) => some i | _ => none
def AVal.bool? : AVal → Option Bool | .d (.bool i) => some i | _ => none
theorem AVal.int?_of {x : AVal} {i : Int} (h : x.int? = some i) : x = .d (.int i) := by
  unfold AVal.int? at h; split at h
  · cases h; rfl
  · cases h
theorem AVal.str?_of {x : AVal} {i : Str} (h : x.str? = some i) : x = .d (.str i) := by
  unfold AVal.str? at h; split at h
  · cases h; rfl
  · cases h
theorem AVal.bool?_of {x : AVal} {i : Bool} (h : x.bool? = some i) : x = .d (.bool i) := by
  unfold AVal.bool? at h; split at h
  · cases h; rfl
  · cases h
theorem AVal.int?_int {i : Int} : (AVal.d (.int i)).int? = some i := rfl
theorem AVal.str?_str {i : Str} : (AVal.d (.str i)).str? = some i := rfl
theorem AVal.bool?_bool {i : Bool} : (AVal.d (.bool i)).bool? = some i := rfl
/-! ### nodes of trees -/
def Tr.at (t : Tr) : List Nat → Option Tr
  | [] => some t
  | i :: p => match t.at p with
    | some (.nd _ _ xs) => xs[i]?
    | _ => none
def leafs : List Tr → Option (List PyData)
  | [] => some []
  | .d x :: xs => (leafs xs).map (x :: ·)
  | .nd _ _ _ :: _ => none
def nodeAt (s : AS) : AVal → Option (Nat × List Nat × Kd × Addr × List Tr)
  | .r n => match s.cs[n]? with
    | some (.tr (.nd k q xs)) => some (n, [], k, q, xs)
    | _ => none
  | .a p n pt => match s.cs[n]? with
    | some (.tr t) => match t.at pt with
      | some (.nd k q xs) => if q = p then some (n, pt, k, q, xs) else none
      | _ => none
    | _ => none
  | _ => none
def leafL : Option (Nat × List Nat × Kd × Addr × List Tr) → Option (List PyData)
  | some (_, _, .lst, _, xs) => leafs xs
  | _ => none
theorem TrAll.get {F H : Hp} : ∀ {ts : List Tr} {vs : List V} {i : Nat} {t : Tr}, TrAll F H ts vs → ts[i]? = some t → ∃ v, vs[i]? = some v ∧ TrOk F H t v
  | [], _, _, _, _, e => by simp at e
  | t0 :: ts, vs, i, t, h, e => by
    obtain ⟨v, r, rfl, h1, h2⟩ := (show ∃ v r, vs = v :: r ∧ TrOk F H t0 v ∧ TrAll F H ts r from h)
    cases i with
    | zero => simp at e; subst e; exact ⟨v, rfl, h1⟩
    | succ i => simpa using TrAll.get h2 (by simpa using e)
theorem TrAll.length {F H : Hp} : ∀ {ts : List Tr} {vs : List V}, TrAll F H ts vs → vs.length = ts.length
  | [], _, h => by obtain rfl := (show _ = [] from h); rfl
  | t :: ts, vs, h => by
    obtain ⟨v, r, rfl, _, h2⟩ := (show ∃ v r, vs = v :: r ∧ TrOk F H t v ∧ TrAll F H ts r from h)
    simp [TrAll.length h2]
theorem TrOk.node {F H : Hp} {k : Kd} {a : Addr} {xs : List Tr} {v : V} (h : TrOk F H (.nd k a xs) v) : v = .ref a ∧ ∃ vs, H a = some (k.ho vs) ∧ k.side H a xs.length ∧ TrAll F H xs vs := h
theorem TrOk.of {F H : Hp} {k : Kd} {a : Addr} {xs : List Tr} {vs : List V} (h1 : H a = some (k.ho vs)) (h2 : k.side H a xs.length) (h3 : TrAll F H xs vs) : TrOk F H (.nd k a xs) (.ref a) := (show V.ref a = .ref a ∧ ∃ vs, H a = some (k.ho vs) ∧ k.side H a xs.length ∧ TrAll F H xs vs from ⟨rfl, vs, h1, h2, h3⟩)
theorem TrOk.at {F H : Hp} {t : Tr} {v : V} (h : TrOk F H t v) : ∀ {pt : List Nat} {u : Tr}, t.at pt = some u → ∃ w, TrOk F H u w
  | [], u, e => by cases e; exact ⟨v, h⟩
  | i :: p, u, e => by
    unfold Tr.at at e
    split at e
    · rename_i k a xs hp
      obtain ⟨w, hw⟩ := TrOk.at h hp
      obtain ⟨_, vs, _, _, h3⟩ := hw.node
      obtain ⟨z, _, hz⟩ := h3.get e
      exact ⟨z, hz⟩
    · cases e
theorem leafs_ok {F H : Hp} : ∀ {ts : List Tr} {vs : List V} {ds : List PyData}, leafs ts = some ds → TrAll F H ts vs → DaAll F ds vs
  | [], _, _, e, h => by cases e; exact h
  | .d x :: ts, vs, ds, e, h => by
    obtain ⟨v, r, rfl, h1, h2⟩ := (show ∃ v r, vs = v :: r ∧ TrOk F H (.d x) v ∧ TrAll F H ts r from h)
    have e' : (leafs ts).map (x :: ·) = some ds := e
    cases hl : leafs ts with
    | none => rw [hl] at e'; cases e'
    | some l => rw [hl] at e'; cases e'; exact daAll_cons h1 (leafs_ok hl h2)
  | .nd _ _ _ :: _, _, _, e, _ => by cases e
theorem leafs_map (ds : List PyData) : leafs (ds.map .d) = some ds := by
  induction ds with
  | nil => rfl
  | cons d ds ih => show (leafs (ds.map .d)).map (d :: ·) = _; rw [ih]; rfl
structure NodeAt (ad : List Addr) (F H : Hp) (s : AS) (v : V) (n : Nat) (pt : List Nat) (k : Kd) (q : Addr) (xs : List Tr) (t : Tr) (p : Addr) (vs : List V) : Prop where
  cell : s.cs[n]? = some (.tr t)
  root : ad[n]? = some p
  here : t.at pt = some (.nd k q xs)
  val : v = .ref q
  ho : H q = some (k.ho vs)
  side : k.side H q xs.length
  kids : TrAll F H xs vs
  tree : TrOk F H t (.ref p)
theorem nodeAt_ok {B : Bs} {ad : List Addr} {F H : Hp} {s : AS} {σ : St} {x : AVal} {v : V} {n : Nat} {pt : List Nat} {k : Kd} {q : Addr} {xs : List Tr} (r : Rl B ad F H s σ) (h : VOk ad F x v) (e : nodeAt s x = some (n, pt, k, q, xs)) : ∃ t p vs, NodeAt ad F H s v n pt k q xs t p vs := by
  have key : ∀ (m : Nat) (t : Tr) (u : V), s.cs[m]? = some (.tr t) → t.at pt = some (.nd k q xs) → m = n → u = .ref q → ∃ t p vs, NodeAt ad F H s u n pt k q xs t p vs := by
    intro m t u hc ha hm hu
    subst hm
    have hl : m < ad.length := by rw [r.len]; exact (List.getElem?_eq_some_iff.mp hc).1
    have hp : ad[m]? = some ad[m] := List.getElem?_eq_getElem hl
    obtain ⟨_, _, h1, h2⟩ := r.cel m _ _ hp hc
    obtain ⟨w, hw⟩ := h2.at ha
    obtain ⟨_, vs, h4, h5, h6⟩ := hw.node
    exact ⟨t, ad[m], vs, hc, hp, ha, hu, h4, h5, h6, h2⟩
  cases x with
  | d _ => cases e
  | s _ _ => cases e
  | r m =>
    obtain ⟨a, h1, rfl⟩ := h
    simp only [nodeAt] at e
    split at e
    · rename_i k' q' xs' hc
      obtain ⟨_, _, h2, _⟩ := r.cel m _ _ h1 hc
      cases h2
      cases e
      exact key _ _ _ hc rfl rfl rfl
    · cases e
  | a p m pt' =>
    have h : v = .ref p := h
    subst h
    simp only [nodeAt] at e
    split at e
    · rename_i t hc
      split at e
      · rename_i k' q' xs' ha
        split at e
        · rename_i hq
          cases e
          exact key _ t _ hc ha rfl (by rw [hq])
        · cases e
      · cases e
    · cases e
/-- a list to be read, its items told for good -/
def listOf (s : AS) : AVal → Option (List PyData)
  | .d (.list ds) => some ds
  | .r n => match s.cs[n]? with
    | some (.lst ds) => some ds
    | some (.fz (.list ds)) => some ds
    | some (.tr (.nd .lst _ xs)) => leafs xs
    | _ => none
  | .a p n pt => leafL (nodeAt s (.a p n pt))
  | _ => none
theorem leafL_ok {B : Bs} {ad : List Addr} {F H : Hp} {s : AS} {σ : St} {x : AVal} {v : V} {ds : List PyData} (r : Rl B ad F H s σ) (h : VOk ad F x v) (e : leafL (nodeAt s x) = some ds) : ∃ l vs, v = .ref l ∧ H l = some (.lst vs) ∧ DaAll F ds vs := by
  unfold leafL at e
  split at e
  · rename_i n pt q xs hn
    obtain ⟨t, p, vs, N⟩ := nodeAt_ok r h hn
    exact ⟨q, vs, N.val, N.ho, leafs_ok e N.kids⟩
  · cases e
def dictD (kvs : List (Key × PyData)) : PyData := .dict (kvs.map fun p => (keyD p.1, p.2))
theorem noEx_dictD (kvs : List (Key × PyData)) : noEx (dictD kvs) = true := by
  cases kvs with
  | nil => rfl
  | cons p r =>
    obtain ⟨k, x⟩ := p
    cases k <;> rfl
def frzC : Cell → Option PyData
  | .lst ds => some (.list ds)
  | .dK kvs => some (dictD kvs)
  | .fz x => some x
  | _ => none
mutual
def Tr.data? : Tr → Option PyData
  | .d x => some x
  | .nd k _ xs => match k with
    | .lst => (Tr.datas? xs).map .list
    | .tup => (Tr.datas? xs).map .tuple
    | .dct ks => (Tr.datas? xs).map fun ds => dictD (ks.zip ds)
    | .dctT _ => none
    | .obj _ _ _ => none
def Tr.datas? : List Tr → Option (List PyData)
  | [] => some []
  | t :: ts => match t.data?, Tr.datas? ts with
    | some y, some ys => some (y :: ys)
    | _, _ => none
end
def cellD : Cell → Option PyData
  | .tr t => t.data?
  | c => frzC c
def dataOf (s : AS) : AVal → Option PyData
  | .d x => some x
  | .r n => (s.cs[n]?).bind cellD
  | .s _ _ => none
  | .a p n pt => match nodeAt s (.a p n pt) with
    | some (_, _, k, q, xs) => Tr.data? (.nd k q xs)
    | none => none
section
variable {X : Cx} {B : Bs} {ad ad1 : List Addr} {F F1 H H1 : Hp} {σ : St} {Q : VQ} {s : AS} {x y : AVal} {v u : V} {e a b c : Expr} {es : List Expr} {pos : Pos} {ta tb tc : TEA} {tx ty : TTA} {tl : TLA} {tn : TNA}
theorem Post.up (h : Post B ad1 F1 σ Q v H) (e : Ext ad ad1) (k : Same F F1) : Post B ad F σ Q v H := by
  obtain ⟨ad2, F2, x, a2, h1, h2, h3⟩ := h
  exact ⟨ad2, F2, x, a2, e.trans h1, k.trans h2, h3⟩
theorem PostT.up {Q : Bool → AS → Prop} {b : Bool} (h : PostT B ad1 F1 σ Q b H) (e : Ext ad ad1) (k : Same F F1) : PostT B ad F σ Q b H := by
  obtain ⟨ad2, F2, a2, h1, h2, h3⟩ := h
  exact ⟨ad2, F2, a2, e.trans h1, k.trans h2, h3⟩
theorem PostL.up {n : Nat} {Q : List AVal → AS → Prop} {vs : List V} (h : PostL B ad1 F1 σ n Q vs H) (e : Ext ad ad1) (k : Same F F1) : PostL B ad F σ n Q vs H := by
  obtain ⟨ad2, F2, x, a2, h1, h2, h3⟩ := h
  exact ⟨ad2, F2, x, a2, e.trans h1, k.trans h2, h3⟩
theorem PostN.up {Q : Cell → AS → Prop} (h : PostN B ad1 F1 σ Q v H) (e : Ext ad ad1) (k : Same F F1) : PostN B ad F σ Q v H := by
  obtain ⟨ad2, F2, c, a2, p, H1, o, h1, h2, h3⟩ := h
  exact ⟨ad2, F2, c, a2, p, H1, o, e.trans h1, k.trans h2, h3⟩
theorem Post.here (r : Rl B ad F H s σ) (h : VOk ad F x v) (q : Q x s) : Post B ad F σ Q v H := ⟨ad, F, x, s, Ext.refl _, Same.refl _, r, h, q⟩
theorem PostT.here {Q : Bool → AS → Prop} {b : Bool} (r : Rl B ad F H s σ) (q : Q b s) : PostT B ad F σ Q b H := ⟨ad, F, s, Ext.refl _, Same.refl _, r, q⟩
theorem Post.data {d : PyData} (r : Rl B ad F H s σ) (g : Gr F H F1 H1) (h : Da F1 d v) (q : Q (.d d) s) : Post B ad F σ Q v H1 := ⟨ad, F1, .d d, s, Ext.refl _, g.ff, r.gr g, h, q⟩
/-- a new thing that is told for good -/
theorem Post.newD {d : PyData} {p : Addr} {o : HO} (r : Rl B ad F H s σ) (hp : H p = none) (h : Da (upd F p o) d (.ref p)) (q : Q (.d d) s) : Post B ad F σ Q (.ref p) (upd H p o) := Post.data r ((Gr.refl r.fh).shut hp) h q
theorem PostN.here {Q : Cell → AS → Prop} {p : Addr} {o : HO} {c : Cell} (r : Rl B ad F H s σ) (hp : H p = none) (h : COk ad F (upd H p o) p c) (hl : c.live = true) (q : Q c s) : PostN B ad F σ Q (.ref p) (upd H p o) :=
  ⟨ad, F, c, s, p, H, o, Ext.refl _, Same.refl _, r, rfl, hp, rfl, h, hl, q⟩
theorem VOk.list {ds : List PyData} (r : Rl B ad F H s σ) (h : VOk ad F x v) (e : listOf s x = some ds) : ∃ l vs, v = .ref l ∧ H l = some (.lst vs) ∧ DaAll F ds vs := by
  unfold listOf at e
  split at e
  · cases e
    obtain ⟨a, xs, rfl, h1, h2⟩ := h
    exact ⟨a, xs, rfl, r.fh _ _ h1, h2⟩
  · rename_i n
    obtain ⟨a, h1, rfl⟩ := h
    split at e
    · rename_i ds' hc
      cases e
      obtain ⟨_, _, vs, h2, h3⟩ := r.cel n a _ h1 hc
      exact ⟨a, vs, rfl, h2, h3⟩
    · rename_i ds' hc
      cases e
      obtain ⟨_, _, h4⟩ := r.cel n a _ h1 hc
      obtain ⟨a', xs, e', h2, h3⟩ := h4
      cases e'
      exact ⟨a, xs, rfl, r.fh _ _ h2, h3⟩
    · rename_i q xs hc
      obtain ⟨_, _, h2, h3⟩ := r.cel n a _ h1 hc
      cases h2
      obtain ⟨_, vs, h4, _, h5⟩ := h3.node
      exact ⟨_, vs, rfl, h4, leafs_ok e h5⟩
    · cases e
  · exact leafL_ok r h e
  · cases e
theorem daKV_of {F : Hp} : ∀ {kvs : List (Key × PyData)} {es : List (Key × V)}, KvOk F kvs es → DaKV F (kvs.map fun p => (keyD p.1, p.2)) es
  | _, _, .nil => rfl
  | _, _, .cons (a := p) (b := q) h t => by
    refine ⟨q.1, q.2, _, rfl, ?_, h.2, daKV_of t⟩
    rw [h.1]
    cases q.1 <;> rfl
theorem KvOk.mono {F F' : Hp} {kvs : List (Key × PyData)} {es : List (Key × V)} (h : KvOk F kvs es) (k : Same F F') : KvOk F' kvs es := Paired.imp h fun _ _ h => ⟨h.1, h.2.mono k⟩
/-- what a cell holds, told for good -/
theorem COk.frz {p : Addr} {c : Cell} {d : PyData} (h : COk ad F H p c) (hl : c.live = true) (hF : F p = none) (e : frzC c = some d) : ∃ o, H p = some o ∧ Da (upd F p o) d (.ref p) := by
  cases c with
  | lst ds => cases e; obtain ⟨vs, h1, h2⟩ := h; exact ⟨_, h1, p, vs, rfl, upd_same, h2.mono (same_upd hF)⟩
  | dK ds => cases e; obtain ⟨vs, h1, h2⟩ := h; exact ⟨_, h1, Da.ofDict (.inl upd_same) (daKV_of (h2.mono (same_upd hF)))⟩
  | fz x => cases hl
  | pool n => cases e
  | gone => cases e
  | nl xs => cases e
  | nt xs => cases e
  | nd xs => cases e
  | dl _ _ _ => cases e
  | tr _ => cases e
/-! ### names and constants -/
def varA (k : Nat) : TEA := fun s Q => onSome (s.sl[k]?.bind id) fun x => Q x s
theorem ea_v (k : Nat) {x : Str} (hN : X.N[k]? = some x := by rfl) (hv : Vis X.env.scope x := by first | exact Or.inl rfl | exact Or.inr (Or.inl rfl) | exact Or.inr (Or.inr rfl)) (hd : (x == ("__debug__" : Str)) = false := by decide)
    (hcd : (x == ("__classdict__" : Str)) = false := by decide) : EA X B (.Name x pos) (varA k) := ⟨fun ad F H s σ Q r t => by
  obtain ⟨y, e, q⟩ := t
  have e' : s.sl[k]? = some (some y) := by
    cases h : s.sl[k]? with
    | none => rw [h] at e; cases e
    | some o => rw [h] at e; cases o with
      | none => cases e
      | some z => cases e; rfl
  obtain ⟨v, h1, h2⟩ := r.slt k y e'
  exact we_of (pe_var hN hv hd hcd) ⟨v, h1, .here r h2 q⟩⟩
def cstA (d : PyData) : TEA := fun s Q => Q (.d d) s
theorem ea_int {i : Int} {k : Nat} : EA X B (.Constant (.int i) k pos) (cstA (.int i)) := ⟨fun ad F H s σ Q r t => we_of pe_int (.here (x := .d (.int i)) r rfl t)⟩
theorem ea_str {i : Str} {k : Nat} : EA X B (.Constant (.str i) k pos) (cstA (.str i)) := ⟨fun ad F H s σ Q r t => we_of pe_str (.here (x := .d (.str i)) r rfl t)⟩
theorem ea_bool {i : Bool} {k : Nat} : EA X B (.Constant (.bool i) k pos) (cstA (.bool i)) := ⟨fun ad F H s σ Q r t => we_of pe_bl (.here (x := .d (.bool i)) r rfl t)⟩
theorem ea_none {k : Nat} : EA X B (.Constant .none k pos) (cstA .none) := ⟨fun ad F H s σ Q r t => we_of pe_non (.here (x := .d .none) r rfl t)⟩
theorem ea_globI {x : Str} {i : Int} (h : Mg X.mg x (.int i)) (hg : Gl X x := by rfl) (hd : (x == ("__debug__" : Str)) = false := by decide) : EA X B (.Name x pos) (cstA (.int i)) := by
  obtain ⟨u, h1, h2⟩ := h
  exact ⟨fun ad F H s σ Q r t => we_of (pe_glob hg h1 h2 hd) (.here (x := .d (.int i)) r rfl t)⟩
theorem ea_globS {x : Str} {i : Str} (h : Mg X.mg x (.str i)) (hg : Gl X x := by rfl) (hd : (x == ("__debug__" : Str)) = false := by decide) : EA X B (.Name x pos) (cstA (.str i)) := by
  obtain ⟨u, h1, h2⟩ := h
  exact ⟨fun ad F H s σ Q r t => we_of (pe_glob hg h1 h2 hd) (.here (x := .d (.str i)) r rfl t)⟩
/-! ### new things -/
def ownA (t : TNA) : TEA := fun s Q => t s fun c s1 => Q (.r s1.cs.length) ⟨s1.sl, s1.cs ++ [c]⟩
def frzA (t : TNA) : TEA := fun s Q => t s fun c s1 => onSome (frzC c) fun d => Q (.d d) s1
theorem ea_own (h : EN X B e tn) : EA X B e (ownA tn) := ⟨fun ad F H s σ Q r t => (h.run ad F H s σ _ r t).imp fun v H2 q => by
  obtain ⟨ad2, F2, c, a2, p, H1, o, h1, h2, r2, rfl, hp, rfl, ok, hl, q⟩ := q
  have r3 := r2.push (o := o) hp (ok.mono (ad2 := ad2 ++ [p]) ⟨[p], rfl⟩ (Same.refl _) (fun _ e => e) fun _ _ _ e => e) hl
  exact ⟨_, F2, .r a2.cs.length, _, h1.trans ⟨[p], rfl⟩, h2, r3, ⟨p, by rw [← r2.len]; simp, rfl⟩, q⟩⟩
theorem ea_frz (h : EN X B e tn) : EA X B e (frzA tn) := ⟨fun ad F H s σ Q r t => (h.run ad F H s σ _ r t).imp fun v H2 q => by
  obtain ⟨ad2, F2, c, a2, p, H1, o, h1, h2, r2, rfl, hp, rfl, ok, hl, d, hd, q⟩ := q
  obtain ⟨o', e1, e2⟩ := ok.frz hl (r2.fh.free hp) hd
  rw [upd_same] at e1
  cases e1
  exact (Post.newD r2 hp e2 q).up h1 h2⟩
/-! ### two operands -/
def rAny (X : Cx) (f : Value → Value → Sem Value) : R2 := fun u v H Q => ∃ r, OpR X f r ∧ r u v H Q
theorem op_any (f : Value → Value → Sem Value) : OpR X f (rAny X f) := fun pins s σ H x y v u Q I rx ry ⟨r, h, q⟩ => h pins s σ H x y v u Q I rx ry q
def OpA (X : Cx) (B : Bs) (f : Value → Value → Sem Value) (rr : AVal → AVal → TEA) : Prop := ∀ ad F H s σ x y u v Q, Rl B ad F H s σ → VOk ad F x u → VOk ad F y v → rr x y s Q → ∃ r, OpR X f r ∧ r u v H (Post B ad F σ Q)
def OpN (X : Cx) (B : Bs) (f : Value → Value → Sem Value) (rr : AVal → AVal → TNA) : Prop := ∀ ad F H s σ x y u v Q, Rl B ad F H s σ → VOk ad F x u → VOk ad F y v → rr x y s Q → ∃ r, OpR X f r ∧ r u v H (PostN B ad F σ Q)
def opA (rr : AVal → AVal → TEA) (ta tb : TEA) : TEA := fun s Q => ta s fun x s1 => tb s1 fun y s2 => rr x y s2 Q
def opN (rr : AVal → AVal → TNA) (ta tb : TEA) : TNA := fun s Q => ta s fun x s1 => tb s1 fun y s2 => rr x y s2 Q
theorem we2 {R : V → V → Hp → Prop} {K : VK} {ad : List Addr} {F H : Hp} {s : AS} {Q2 : AVal → AVal → AS → Prop} (ha : EA X B a ta) (hb : EA X B b tb) (r : Rl B ad F H s σ) (t : ta s fun x s1 => tb s1 fun y s2 => Q2 x y s2)
    (k : ∀ ad2 F2 H2 s2 x y u v, Ext ad ad2 → Same F F2 → Rl B ad2 F2 H2 s2 σ → VOk ad2 F2 x u → VOk ad2 F2 y v → Q2 x y s2 → R u v H2) : WE X a σ H fun u H1 => WE X b σ H1 fun v H2 => R u v H2 :=
  (ha.run ad F H s σ _ r t).imp fun u H1 q => by
    obtain ⟨ad1, F1, x, s1, e1, k1, r1, v1, t1⟩ := q
    refine (hb.run ad1 F1 H1 s1 σ _ r1 t1).imp fun v H2 q => ?_
    obtain ⟨ad2, F2, y, s2, e2, k2, r2, v2, t2⟩ := q
    exact k ad2 F2 H2 s2 x y u v (e1.trans e2) (k1.trans k2) r2 (v1.mono e2 k2) v2 t2
theorem ea_op {op : Operator} {rr : AVal → AVal → TEA} (ho : OpA X B (binaryOp op) rr) (ha : EA X B a ta) (hb : EA X B b tb) : EA X B (.BinOp a op b pos) (opA rr ta tb) := ⟨fun ad F H s σ Q r t =>
  we_of (pe_op (op_any _) pe_we pe_we) (we2 (R := fun u v H2 => rAny X (binaryOp op) u v H2 (Post B ad F σ Q)) (K := Post B ad F σ Q) ha hb r t fun ad2 F2 H2 s2 x y u v e k r2 hu hv t2 => by
    obtain ⟨q, h1, h2⟩ := ho ad2 F2 H2 s2 σ x y u v Q r2 hu hv t2
    exact ⟨fun u v H K => ∃ K', (∀ w H', K' w H' → K w H') ∧ q u v H K', fun pins s σ H x y v u Q I rx ry ⟨K', k1, k2⟩ => thn (h1 pins s σ H x y v u K' I rx ry k2) fun z s' ⟨w, H', I', rz, qz⟩ => ⟨w, H', I', rz, k1 w H' qz⟩, _, fun w H' p => Post.up p e k, h2⟩)⟩
theorem en_op {op : Operator} {rr : AVal → AVal → TNA} (ho : OpN X B (binaryOp op) rr) (ha : EA X B a ta) (hb : EA X B b tb) : EN X B (.BinOp a op b pos) (opN rr ta tb) := ⟨fun ad F H s σ Q r t =>
  we_of (pe_op (op_any _) pe_we pe_we) (we2 (R := fun u v H2 => rAny X (binaryOp op) u v H2 (PostN B ad F σ Q)) (K := PostN B ad F σ Q) ha hb r t fun ad2 F2 H2 s2 x y u v e k r2 hu hv t2 => by
    obtain ⟨q, h1, h2⟩ := ho ad2 F2 H2 s2 σ x y u v Q r2 hu hv t2
    exact ⟨fun u v H K => ∃ K', (∀ w H', K' w H' → K w H') ∧ q u v H K', fun pins s σ H x y v u Q I rx ry ⟨K', k1, k2⟩ => thn (h1 pins s σ H x y v u K' I rx ry k2) fun z s' ⟨w, H', I', rz, qz⟩ => ⟨w, H', I', rz, k1 w H' qz⟩, _, fun w H' p => PostN.up p e k, h2⟩)⟩
/-! ### comparisons: told is a truth -/
def opT (rr : AVal → AVal → TTA) (ta tb : TEA) : TTA := fun s Q => ta s fun x s1 => tb s1 fun y s2 => rr x y s2 Q
def OpT (X : Cx) (B : Bs) (f : Value → Value → Sem Value) (rr : AVal → AVal → TTA) : Prop := ∀ ad F H s σ x y u v (Q : Bool → AS → Prop), Rl B ad F H s σ → VOk ad F x u → VOk ad F y v → rr x y s Q → ∃ b r, Q b s ∧ OpR X f r ∧ ∀ K : VK, K (.bl b) H → r u v H K
def boolA (t : TTA) : TEA := fun s Q => t s fun b s1 => Q (.d (.bool b)) s1
theorem et_cmp {op : CmpOp} {rr : AVal → AVal → TTA} (ho : OpT X B (compareOp op) rr) (ha : EA X B a ta) (hb : EA X B b tb) (hm : behindInMarks op b = false := by first | exact nomark _ | rfl) : ET X B (.Compare a [op] [b] pos) (opT rr ta tb) := ⟨fun ad F H s σ Q r t =>
  wt_of (pt_cmpR (op_any _) pe_we pe_we hm) (we2 (R := fun u v H2 => rAny X (compareOp op) u v H2 fun x H' => ∃ k, x = .bl k ∧ PostT B ad F σ Q k H') (K := fun _ _ => True) ha hb r t fun ad2 F2 H2 s2 x y u v e k r2 hu hv t2 => by
    obtain ⟨b, q, h0, h1, h2⟩ := ho ad2 F2 H2 s2 σ x y u v Q r2 hu hv t2
    exact ⟨q, h1, h2 _ ⟨b, rfl, (PostT.here r2 h0).up e k⟩⟩)⟩
theorem ea_cmp {op : CmpOp} {rr : AVal → AVal → TTA} (ho : OpT X B (compareOp op) rr) (ha : EA X B a ta) (hb : EA X B b tb) (hm : behindInMarks op b = false := by first | exact nomark _ | rfl) : EA X B (.Compare a [op] [b] pos) (boolA (opT rr ta tb)) := ⟨fun ad F H s σ Q r t =>
  we_of (pe_cmpR (op_any _) pe_we pe_we hm) (we2 (R := fun u v H2 => rAny X (compareOp op) u v H2 (Post B ad F σ Q)) (K := fun _ _ => True) ha hb r t fun ad2 F2 H2 s2 x y u v e k r2 hu hv t2 => by
    obtain ⟨b, q, h0, h1, h2⟩ := ho ad2 F2 H2 s2 σ x y u v _ r2 hu hv t2
    exact ⟨q, h1, h2 _ ((Post.here (x := .d (.bool b)) r2 rfl h0).up e k)⟩)⟩
/-! ### truth -/
def valA (t : TEA) : TTA := fun s Q => t s fun x s1 => onSome x.bool? fun b => Q b s1
theorem et_val (h : EA X B e ta) (he : ∀ whole, isTrue e X.env whole = (do let v ← whole; standAt e.pos; holding [v] (truthy v)) := by intro _; rfl) : ET X B e (valA ta) := ⟨fun ad F H s σ Q r t =>
  wt_of (pt_val pe_we he) ((h.run ad F H s σ _ r t).imp fun v H2 q => by
    obtain ⟨ad2, F2, x, a2, h1, h2, r2, hv, b, hb, q⟩ := q
    have := AVal.bool?_of hb
    subst this
    exact ⟨b, hv, ad2, F2, a2, h1, h2, r2, q⟩)⟩
theorem ET.of_w (h : EW X B e tx) : ET X B e tx := ⟨fun ad F H s σ Q r t => wt_of (PW.pt pw_ww) (h.run ad F H s σ Q r t)⟩
def notA (t : TTA) : TTA := fun s Q => t s fun b s1 => Q (!b) s1
theorem et_not (h : ET X B a tx) : ET X B (.UnaryOp .Not a pos) (notA tx) := ⟨fun ad F H s σ Q r t => wt_of (pt_not pt_wt) (h.run ad F H s σ _ r t)⟩
def andA (t u : TTA) : TTA := fun s Q => t s fun b s1 => if b = true then u s1 Q else Q false s1
def orA (t u : TTA) : TTA := fun s Q => t s fun b s1 => if b = true then Q true s1 else u s1 Q
theorem ew_and1 (h : ET X B a tx) : EW X B (.BoolOp .And [a] pos) tx := ⟨fun ad F H s σ Q r t => ww_of (pw_and1 pt_wt) (h.run ad F H s σ Q r t)⟩
theorem ew_or1 (h : ET X B a tx) : EW X B (.BoolOp .Or [a] pos) tx := ⟨fun ad F H s σ Q r t => ww_of (pw_or1 pt_wt) (h.run ad F H s σ Q r t)⟩
theorem ew_and (h : ET X B a tx) (h2 : EW X B (.BoolOp .And (b :: es) pos) ty) : EW X B (.BoolOp .And (a :: b :: es) pos) (andA tx ty) := ⟨fun ad F H s σ Q r t => ww_of (pw_and pt_wt pw_ww) ((h.run ad F H s σ _ r t).imp fun c H1 q => by
  obtain ⟨ad1, F1, s1, e1, k1, r1, q⟩ := q
  cases c with
  | true =>
    refine iteT ?_
    rw [if_pos rfl] at q
    intro whole pins s' I
    exact thn (h2.run ad1 F1 H1 s1 σ Q r1 q whole pins s' I) fun z s2 ⟨H', I', p⟩ => ⟨H', I', p.up e1 k1⟩
  | false => exact iteF ⟨ad1, F1, s1, e1, k1, r1, q⟩)⟩
theorem ew_or (h : ET X B a tx) (h2 : EW X B (.BoolOp .Or (b :: es) pos) ty) : EW X B (.BoolOp .Or (a :: b :: es) pos) (orA tx ty) := ⟨fun ad F H s σ Q r t => ww_of (pw_or pt_wt pw_ww) ((h.run ad F H s σ _ r t).imp fun c H1 q => by
  obtain ⟨ad1, F1, s1, e1, k1, r1, q⟩ := q
  cases c with
  | true => exact iteT ⟨ad1, F1, s1, e1, k1, r1, q⟩
  | false =>
    refine iteF ?_
    intro whole pins s' I
    exact thn (h2.run ad1 F1 H1 s1 σ Q r1 q whole pins s' I) fun z s2 ⟨H', I', p⟩ => ⟨H', I', p.up e1 k1⟩)⟩
/-- and, or, not as values -/
def andV (t u : TEA) : TEA := fun s Q => t s fun x s1 => onSome x.bool? fun b => if b = true then u s1 Q else Q (.d (.bool false)) s1
def orV (t u : TEA) : TEA := fun s Q => t s fun x s1 => onSome x.bool? fun b => if b = true then Q (.d (.bool true)) s1 else u s1 Q
def notV (t : TEA) : TEA := fun s Q => t s fun x s1 => onSome x.bool? fun b => Q (.d (.bool (!b))) s1
theorem ea_one {op} (h : EA X B a ta) : EA X B (.BoolOp op [a] pos) ta := ⟨fun ad F H s σ Q r t => we_of (pe_one pe_we) (h.run ad F H s σ Q r t)⟩
theorem ea_and (h : EA X B a ta) (h2 : EA X B (.BoolOp .And (b :: es) pos) tb) : EA X B (.BoolOp .And (a :: b :: es) pos) (andV ta tb) := ⟨fun ad F H s σ Q r t => we_of (pe_and pe_we pe_we) ((h.run ad F H s σ _ r t).imp fun v H1 q => by
  obtain ⟨ad1, F1, x, s1, e1, k1, r1, hv, c, hc, q⟩ := q
  have := AVal.bool?_of hc
  subst this
  refine ⟨c, hv, ?_⟩
  cases c with
  | true =>
    rw [if_pos rfl] at q
    exact iteT ((h2.run ad1 F1 H1 s1 σ Q r1 q).imp fun v H2 p => p.up e1 k1)
  | false => exact iteF ⟨ad1, F1, .d (.bool false), s1, e1, k1, r1, rfl, q⟩)⟩
theorem ea_or (h : EA X B a ta) (h2 : EA X B (.BoolOp .Or (b :: es) pos) tb) : EA X B (.BoolOp .Or (a :: b :: es) pos) (orV ta tb) := ⟨fun ad F H s σ Q r t => we_of (pe_or pe_we pe_we) ((h.run ad F H s σ _ r t).imp fun v H1 q => by
  obtain ⟨ad1, F1, x, s1, e1, k1, r1, hv, c, hc, q⟩ := q
  have := AVal.bool?_of hc
  subst this
  refine ⟨c, hv, ?_⟩
  cases c with
  | true => exact iteT ⟨ad1, F1, .d (.bool true), s1, e1, k1, r1, rfl, q⟩
  | false => exact iteF ((h2.run ad1 F1 H1 s1 σ Q r1 q).imp fun v H2 p => p.up e1 k1))⟩
theorem ea_not (h : EA X B a ta) : EA X B (.UnaryOp .Not a pos) (notV ta) := ⟨fun ad F H s σ Q r t => we_of (pe_not pe_we) ((h.run ad F H s σ _ r t).imp fun v H1 q => by
  obtain ⟨ad1, F1, x, s1, e1, k1, r1, hv, c, hc, q⟩ := q
  have := AVal.bool?_of hc
  subst this
  exact ⟨c, hv, ad1, F1, .d (.bool (!c)), s1, e1, k1, r1, rfl, q⟩)⟩
def ifV (t : TTA) (u w : TEA) : TEA := fun s Q => t s fun b s1 => if b = true then u s1 Q else w s1 Q
/-! ### argument lists, displays -/
def nilL : TLA := fun s Q => Q [] s
def consL (t : TEA) (u : TLA) : TLA := fun s Q => t s fun x s1 => u s1 fun xs s2 => Q (x :: xs) s2
theorem el_nil : EL X B [] nilL := ⟨fun ad F H s σ Q r t => wa_of pa_nil ⟨ad, F, [], s, Ext.refl _, Same.refl _, r, .nil, rfl, t⟩⟩
theorem WA.imp {es : List Expr} {σ : St} {H : Hp} {Q Q' : List V → Hp → Prop} (h : WA X es σ H Q) (q : ∀ v H', Q v H' → Q' v H') : WA X es σ H Q' := fun pos pins s I => thn (h pos pins s I) fun u s' ⟨v, H', I', r, k⟩ => ⟨v, H', I', r, q v H' k⟩
theorem el_cons (h : EA X B e ta) (t : EL X B es tl) (hs : starEach (e :: es) X.env = (false, eval e X.env) :: starEach es X.env := by rfl) : EL X B (e :: es) (consL ta tl) := ⟨fun ad F H s σ Q r t' =>
  wa_of (pa_cons pe_we pa_wa hs) ((h.run ad F H s σ _ r t').imp fun v H1 q => by
    obtain ⟨ad1, F1, x, s1, e1, k1, r1, hv, q⟩ := q
    refine (t.run ad1 F1 H1 s1 σ _ r1 q).imp fun vs H2 q => ?_
    obtain ⟨ad2, F2, xs, s2, e2, k2, r2, hvs, hln, q⟩ := q
    exact ⟨ad2, F2, x :: xs, s2, e1.trans e2, k1.trans k2, r2, .cons (hv.mono e2 k2) hvs, by simp [hln], q⟩)⟩
/-- items that are told for good -/
def datas : List AVal → Option (List PyData)
  | [] => some []
  | .d x :: xs => (datas xs).map (x :: ·)
  | .r _ :: _ => none
  | .s _ _ :: _ => none
  | .a _ _ _ :: _ => none
theorem datas_ok : ∀ {xs : List AVal} {vs : List V} {ds : List PyData}, Paired (VOk ad F) xs vs → datas xs = some ds → DaAll F ds vs
  | [], _, _, .nil, e => by cases e; rfl
  | .d x :: xs, _, ds, .cons h t, e => by
    unfold datas at e
    cases h2 : datas xs with
    | none => rw [h2] at e; cases e
    | some r => rw [h2] at e; cases e; exact daAll_cons h (datas_ok t h2)
  | .r _ :: _, _, _, _, e => by cases e
  | .s _ _ :: _, _, _, _, e => by cases e
  | .a _ _ _ :: _, _, _, _, e => by cases e
def lstN (t : TLA) : TNA := fun s Q => t s fun xs s1 => xs.length ≤ sizeLine ∧ onSome (datas xs) fun ds => Q (.lst ds) s1
theorem Paired.len {α β : Type} {R : α → β → Prop} : ∀ {xs : List α} {ys : List β}, Paired R xs ys → xs.length = ys.length
  | _, _, .nil => rfl
  | _, _, .cons _ t => by simp [Paired.len t]
theorem en_lst (h : EL X B es tl) : EN X B (.List es pos) (lstN tl) := ⟨fun ad F H s σ Q r t => we_of (pe_lst pa_wa) ((h.run ad F H s σ _ r t).imp fun vs H1 q => by
  obtain ⟨ad1, F1, xs, s1, e1, k1, r1, hvs, hln, hz, ds, hds, q⟩ := q
  exact ⟨by rw [← Paired.len hvs]; exact hz, fun p hp => (PostN.here (c := .lst ds) r1 hp ⟨vs, upd_same, datas_ok hvs hds⟩ rfl q).up e1 k1⟩)⟩
def tupA (t : TLA) : TEA := fun s Q => t s fun xs s1 => xs.length ≤ sizeLine ∧ onSome (datas xs) fun ds => Q (.d (.tuple ds)) s1
theorem ea_tup {x1} (h : EL X B es tl) : EA X B (.Tuple es x1 pos) (tupA tl) := ⟨fun ad F H s σ Q r t => we_of (pe_tup pa_wa) ((h.run ad F H s σ _ r t).imp fun vs H1 q => by
  obtain ⟨ad1, F1, xs, s1, e1, k1, r1, hvs, hln, hz, ds, hds, q⟩ := q
  refine ⟨by rw [← Paired.len hvs]; exact hz, fun p hp => (Post.newD (d := .tuple ds) r1 hp ⟨p, vs, rfl, upd_same, (datas_ok hvs hds).mono (same_upd (r1.fh.free hp))⟩ q).up e1 k1⟩)⟩
def tupR (t : TLA) : TNA := fun s Q => t s fun xs s1 => xs.length ≤ sizeLine ∧ Q (.nt xs) s1
end
end Kr
/-! layer A3 -/
namespace Kr
open PySem L2
section
variable {B : Bs} {ad ad2 : List Addr} {F H F2 H2 : Hp} {s s2 : AS} {σ σ2 : St}
/-! ## another beginning -/
abbrev Bs.at (ad : List Addr) (F H : Hp) (T : List Addr) : Bs := ⟨ad, F, H, T⟩
theorem Rl.base (r : Rl B ad F H s σ) : Rl (Bs.at ad F H (s.cs.flatMap Cell.ads)) ad F H s σ :=
  ⟨Same.refl _, r.fh, fun _ _ _ _ e => e, fun b hb => hb.elim (fun h => r.mem h) (fun h => (r.inn.fr b h).2), fun b e _ => e, ⟨[], by simp [Bs.at], fun b hb => nomatch hb⟩, r.nd, r.len, r.cel, r.sln, r.slt, ⟨r.inn.nd, r.inn.off, r.inn.fr, fun q hq => .inr (.inl hq), fun b hb => (r.inn.fr b hb).2⟩⟩
theorem Rl.inS (r : Rl B ad F H s σ) {b : Addr} (h : b ∈ ad) : b ∈ B.S ∨ B.H0 b = none := by
  obtain ⟨ad', e', h1⟩ := r.pre
  rw [e'] at h
  exact (List.mem_append.mp h).elim .inl fun z => .inr (h1 b z)
theorem Rl.rebase (r : Rl B ad F H s σ) (q : Rl (Bs.at ad F H (s.cs.flatMap Cell.ads)) ad2 F2 H2 s2 σ2) : Rl B ad2 F2 H2 s2 σ2 := by
  refine ⟨r.ff.trans q.ff, q.fh, fun b o hb ht e => ?_, fun b hb => ?_, fun b e n => ?_, ?_, q.nd, q.len, q.cel, q.sln, q.slt, ⟨q.inn.nd, q.inn.off, q.inn.fr, fun x hx => ?_, r.inn.old⟩⟩
  · refine q.hh b o (fun z => ?_) (fun z => ?_) (r.hh b o hb ht e)
    · rcases r.inS z with z | z
      · exact hb z
      · rw [z] at e; cases e
    · rcases r.inn.own b z with z | z | z
      · exact hb z
      · exact ht z
      · rw [z] at e; cases e
  · exact q.there (r.al b hb)
  · exact q.new b (r.new b e n) (r.there n)
  · obtain ⟨ad', e', h1⟩ := r.pre
    obtain ⟨ad3, e3, h3⟩ := q.pre
    refine ⟨ad' ++ ad3, by rw [e3]; show ad ++ ad3 = _; rw [e', List.append_assoc], fun b hb => ?_⟩
    rcases List.mem_append.mp hb with hb | hb
    · exact h1 b hb
    · exact (r.fresh (h3 b hb)).1
  · rcases q.inn.own x hx with z | z | z
    · exact (r.inS z).elim .inl fun z => .inr (.inr z)
    · exact r.inn.own x z
    · exact .inr (.inr (r.fresh z).1)
theorem Rl.ext {T : List Addr} (q : Rl (Bs.at ad F H T) ad2 F2 H2 s2 σ2) : Ext ad ad2 ∧ Same F F2 := ⟨let ⟨ad3, e3, _⟩ := q.pre; ⟨ad3, e3⟩, q.ff⟩
/-- a higher floor of what is told -/
abbrev Bs.fl (B : Bs) (F : Hp) : Bs := ⟨B.S, F, B.H0, B.T⟩
theorem Rl.floor (r : Rl B ad F H s σ) : Rl (B.fl F) ad F H s σ :=
  ⟨Same.refl _, r.fh, r.hh, r.al, fun b e _ => e, r.pre, r.nd, r.len, r.cel, r.sln, r.slt, ⟨r.inn.nd, r.inn.off, r.inn.fr, r.inn.own, r.inn.old⟩⟩
theorem Rl.unfloor (r : Rl B ad F H s σ) (q : Rl (B.fl F) ad2 F2 H2 s2 σ2) : Rl B ad2 F2 H2 s2 σ2 :=
  ⟨r.ff.trans q.ff, q.fh, q.hh, q.al, fun b e n => q.new b (r.new b e n) n, q.pre, q.nd, q.len, q.cel, q.sln, q.slt, ⟨q.inn.nd, q.inn.off, q.inn.fr, q.inn.own, q.inn.old⟩⟩
/-- other slots than those spoken of -/
theorem Rl.back {sl : List (Option AVal)} {cs : List Cell} {B2 : Bs} (r : Rl B2 ad F H ⟨sl, cs⟩ σ) (q : Rl B ad2 F2 H2 s2 σ2) (e : Ext ad ad2) (k : Same F F2) : Rl B ad2 F2 H2 ⟨sl, s2.cs⟩ σ :=
  ⟨q.ff, q.fh, q.hh, q.al, q.new, q.pre, q.nd, q.len, q.cel, r.sln, fun j x h => by
    obtain ⟨v, h1, h2⟩ := r.slt j x h
    exact ⟨v, h1, h2.mono e k⟩, q.inn⟩
/-- a cell that is none of ours stays -/
theorem Rl.aside {p : Addr} {o : HO} {T : List Addr} (q : Rl (Bs.at ad F H T) ad2 F2 H2 s2 σ2) (hp : p ∉ ad) (hT : p ∉ T) (ho : H p = some o) (hF : F p = none) : H2 p = some o ∧ F2 p = none ∧ p ∉ ad2 ∧ p ∉ s2.cs.flatMap Cell.ads := by
  refine ⟨q.hh p o hp hT ho, q.new p hF (ne_none ho), fun z => ?_, fun z => ?_⟩
  · obtain ⟨ad3, e3, h3⟩ := q.pre
    rw [e3] at z
    rcases List.mem_append.mp z with z | z
    · exact hp z
    · have : H p = none := h3 p z
      rw [ho] at this; cases this
  · rcases q.inn.own p z with z | z | z
    · exact hp z
    · exact hT z
    · have z : H p = none := z
      rw [ho] at z; cases z
end
/-! ## slots that a target sets -/
def Keeps (ks : List Nat) (σ σ2 : St) : Prop := σ2.length = σ.length ∧ ∀ j, j ∉ ks → σ2[j]? = σ[j]?
theorem Keeps.refl (σ : St) : Keeps [] σ σ := ⟨rfl, fun _ _ => rfl⟩
theorem Keeps.set (σ : St) (k : Nat) (v : Option V) : Keeps [k] σ (σ.set k v) := ⟨by simp, fun j hj => List.getElem?_set_ne (fun z => hj (by simp [z]))⟩
theorem Keeps.trans {ks ls : List Nat} {σ σ1 σ2 : St} (a : Keeps ks σ σ1) (b : Keeps ls σ1 σ2) : Keeps (ks ++ ls) σ σ2 := ⟨b.1.trans a.1, fun j hj => (b.2 j fun z => hj (List.mem_append_right _ z)).trans (a.2 j fun z => hj (List.mem_append_left _ z))⟩
theorem wipe_get (σ : St) : ∀ (vs : List Nat) (j : Nat), (wipe σ vs)[j]? = if j ∈ vs then (σ[j]?).map (fun _ => none) else σ[j]?
  | [], j => by simp [wipe]
  | v :: vs, j => by
    show ((wipe σ vs).set v none)[j]? = _
    by_cases hj : j = v
    · subst hj
      rw [if_pos (List.mem_cons_self ..)]
      by_cases hl : j < σ.length
      · rw [List.getElem?_set_self (by rw [wipe_length]; exact hl), List.getElem?_eq_getElem hl]; rfl
      · rw [List.getElem?_eq_none (by simp [wipe_length]; omega), List.getElem?_eq_none (by omega)]; rfl
    · rw [List.getElem?_set_ne (fun z => hj z.symm), wipe_get σ vs j]
      by_cases hm : j ∈ vs
      · rw [if_pos hm, if_pos (List.mem_cons_of_mem _ hm)]
      · rw [if_neg hm, if_neg (by simp [hj, hm])]
theorem wipe_keeps {ks vs : List Nat} {σ σ2 : St} (h : Keeps ks (wipe σ vs) σ2) (hs : ∀ k ∈ ks, k ∈ vs) : wipe σ2 vs = wipe σ vs := by
  apply List.ext_getElem?
  intro j
  rw [wipe_get σ2 vs j, wipe_get σ vs j]
  have hl : σ2.length = σ.length := h.1.trans (wipe_length σ vs)
  by_cases hj : j ∈ vs
  · rw [if_pos hj, if_pos hj]
    by_cases hlt : j < σ.length
    · rw [List.getElem?_eq_getElem hlt, List.getElem?_eq_getElem (by omega)]; rfl
    · rw [List.getElem?_eq_none (by omega), List.getElem?_eq_none (by omega)]
  · rw [if_neg hj, if_neg hj, h.2 j (fun z => hj (hs j z)), wipe_get σ vs j, if_neg hj]
def wipeA (sl : List (Option AVal)) : List Nat → List (Option AVal)
  | [] => sl
  | v :: vs => (wipeA sl vs).set v none
theorem wipeA_length (sl : List (Option AVal)) : ∀ vs : List Nat, (wipeA sl vs).length = sl.length
  | [] => rfl
  | v :: vs => by simp [wipeA, wipeA_length sl vs]
theorem wipeA_get {sl : List (Option AVal)} : ∀ {vs : List Nat} {j : Nat} {x : AVal}, (wipeA sl vs)[j]? = some (some x) → sl[j]? = some (some x) ∧ j ∉ vs
  | [], j, x, h => ⟨h, (fun z => nomatch z)⟩
  | v :: vs, j, x, h => by
    have h' : ((wipeA sl vs).set v none)[j]? = some (some x) := h
    by_cases hj : j = v
    · subst hj
      rw [List.getElem?_set] at h'
      simp at h'
    · rw [List.getElem?_set_ne (fun z => hj z.symm)] at h'
      obtain ⟨h1, h2⟩ := wipeA_get h'
      exact ⟨h1, fun z => by
        rcases List.mem_cons.mp z with z | z
        · exact hj z
        · exact h2 z⟩
theorem Rl.wipe {B : Bs} {ad : List Addr} {F H : Hp} {sl : List (Option AVal)} {cs : List Cell} {σ : St} (r : Rl B ad F H ⟨sl, cs⟩ σ) (vs : List Nat) : Rl B ad F H ⟨wipeA sl vs, cs⟩ (wipe σ vs) :=
  ⟨r.ff, r.fh, r.hh, r.al, r.new, r.pre, r.nd, r.len, r.cel, by show (wipeA sl vs).length = _; rw [wipeA_length, wipe_length]; exact r.sln, fun j x h => by
    obtain ⟨h1, h2⟩ := wipeA_get h
    obtain ⟨v, h3, h4⟩ := r.slt j x h1
    exact ⟨v, by rw [wipe_get, if_neg h2]; exact h3, h4⟩, r.inn⟩
/-! ## targets -/
structure GT (X : Cx) (tg : Expr) (ks : List Nat) (t : TGA) : Prop where
  run : ∀ B ad F H s σ x v Q, Rl B ad F H s σ → VOk ad F x v → t x s Q → WG X tg v σ H fun σ2 H2 => H2 = H ∧ Keeps ks σ σ2 ∧ ∃ s2, Rl B ad F H s2 σ2 ∧ Q s2
def nameG (k : Nat) : TGA := fun x s Q => Q ⟨s.sl.set k (some x), s.cs⟩
def tupOf (s : AS) : AVal → Option (List AVal)
  | .d (.tuple ds) => some (ds.map .d)
  | .d (.list ds) => some (ds.map .d)
  | .r n => match s.cs[n]? with
    | some (.nt xs) => some xs
    | some (.nl xs) => some xs
    | some (.lst ds) => some (ds.map .d)
    | some (.fz (.tuple ds)) => some (ds.map .d)
    | some (.fz (.list ds)) => some (ds.map .d)
    | _ => none
  | _ => none
section
variable {X : Cx} {tg t1 t2 t3 : Expr} {ks ks1 ks2 ks3 : List Nat} {g1 g2 g3 : TGA} {pos : Pos}
theorem WG.mono2 {v : V} {σ : St} {H : Hp} {Q Q' : St → Hp → Prop} (h : WG X tg v σ H Q) (k : ∀ σ' H', Q σ' H' → Q' σ' H') : WG X tg v σ H Q' := WG.mono k h
theorem gt_name (k : Nat) {x : Str} (hN : X.N.Nodup) (hi : X.N[k]? = some x := by rfl) (hx : Loc X.env.scope x := by first | exact .inl rfl | exact .inr rfl) (hf : X.fn x = true ∨ X.env.scope.names.lookup x = some .local := by first | exact .inl rfl | exact .inr rfl) : GT X (.Name x pos) [k] (nameG k) :=
  ⟨fun B ad F H s σ x v Q r hv t => wg_name k hN ⟨rfl, Keeps.set _ _ _, _, r.set hv, t⟩ hi hx hf⟩
theorem pairedD {ad : List Addr} {F : Hp} : ∀ {ds : List PyData} {vs : List V}, DaAll F ds vs → Paired (VOk ad F) (ds.map .d) vs
  | [], _, h => by obtain rfl := (show _ = [] from h); exact .nil
  | d :: ds, _, h => by
    obtain ⟨v, r, rfl, h1, h2⟩ := (show ∃ v r, _ = v :: r ∧ Da F d v ∧ DaAll F ds r from h)
    exact .cons h1 (pairedD h2)
theorem VOk.tup {B : Bs} {ad : List Addr} {F H : Hp} {s : AS} {σ : St} {x : AVal} {v : V} {xs : List AVal} (r : Rl B ad F H s σ) (h : VOk ad F x v) (e : tupOf s x = some xs) : ∃ l vs, v = .ref l ∧ (H l = some (.tup vs) ∨ H l = some (.lst vs)) ∧ Paired (VOk ad F) xs vs := by
  unfold tupOf at e
  split at e
  · cases e
    obtain ⟨a, xs, rfl, h1, h2⟩ := h
    exact ⟨a, xs, rfl, .inl (r.fh _ _ h1), pairedD h2⟩
  · cases e
    obtain ⟨a, xs, rfl, h1, h2⟩ := h
    exact ⟨a, xs, rfl, .inr (r.fh _ _ h1), pairedD h2⟩
  · rename_i n
    obtain ⟨a, h1, rfl⟩ := h
    split at e
    · rename_i ds' hc
      cases e
      obtain ⟨_, _, vs, h2, h3⟩ := r.cel n a _ h1 hc
      exact ⟨a, vs, rfl, .inl h2, h3⟩
    · rename_i ds' hc
      cases e
      obtain ⟨_, _, vs, h2, h3⟩ := r.cel n a _ h1 hc
      exact ⟨a, vs, rfl, .inr h2, h3⟩
    · rename_i ds' hc
      cases e
      obtain ⟨_, _, vs, h2, h3⟩ := r.cel n a _ h1 hc
      exact ⟨a, vs, rfl, .inr h2, pairedD h3⟩
    · rename_i ds' hc
      cases e
      obtain ⟨_, _, h4⟩ := r.cel n a _ h1 hc
      obtain ⟨a', xs, e', h2, h3⟩ := h4
      cases e'
      exact ⟨a, xs, rfl, .inl (r.fh _ _ h2), pairedD h3⟩
    · rename_i ds' hc
      cases e
      obtain ⟨_, _, h4⟩ := r.cel n a _ h1 hc
      obtain ⟨a', xs, e', h2, h3⟩ := h4
      cases e'
      exact ⟨a, xs, rfl, .inr (r.fh _ _ h2), pairedD h3⟩
    · cases e
  · cases e
theorem wg_unp {X : Cx} {es : List Expr} {k n : Nat} {t : TGs} {pos : Pos} {l : Addr} {vs : List V} {σ : St} {H : Hp} {Q : St → Hp → Prop} (hc : X.calm = true) (h : PGs X es t) (hn : (assignEach es X.env).length = n) (hst : (assignEach es X.env).findIdx? (·.1) = none) (hl : H l = some (.tup vs) ∨ H l = some (.lst vs)) (hv : vs.length = n) (q : t vs σ H Q) : WG X (.Tuple es k pos) (.ref l) σ H Q := by
  rcases hl with hl | hl
  · exact wg_of (pg_tup hc h hn hst) ⟨l, vs, rfl, SqT.of hl, hv, q⟩
  · exact wg_of (pg_lst hc h hn hst) ⟨l, vs, rfl, SqL.of hl, hv, q⟩
def tup2G (g1 g2 : TGA) : TGA := fun x s Q => onSome (tupOf s x) fun xs => match xs with
  | [x1, x2] => g1 x1 s fun s1 => g2 x2 s1 Q
  | _ => False
def tup3G (g1 g2 g3 : TGA) : TGA := fun x s Q => onSome (tupOf s x) fun xs => match xs with
  | [x1, x2, x3] => g1 x1 s fun s1 => g2 x2 s1 fun s2 => g3 x3 s2 Q
  | _ => False
theorem gt_tup2 {k : Nat} (hc : X.calm = true) (h1 : GT X t1 ks1 g1) (h2 : GT X t2 ks2 g2)
    (hs : (assignEach [t1, t2] X.env).map (·.2) = assign t1 X.env :: (assignEach [t2] X.env).map (·.2) := by rfl) (hs2 : (assignEach [t2] X.env).map (·.2) = assign t2 X.env :: (assignEach [] X.env).map (·.2) := by rfl)
    (hn : (assignEach [t1, t2] X.env).length = 2 := by rfl) (hst : (assignEach [t1, t2] X.env).findIdx? (·.1) = none := by rfl) : GT X (.Tuple [t1, t2] k pos) (ks1 ++ ks2) (tup2G g1 g2) := ⟨fun B ad F H s σ x v Q r hv t => by
  obtain ⟨xs, hx, t⟩ := t
  obtain ⟨l, vs, rfl, hl, hp⟩ := hv.tup r hx
  match xs, vs, hp, t with
  | [x1, x2], _, .cons (b := v1) p1 (.cons (b := v2) p2 .nil), t =>
    refine wg_unp hc (pgs_cons pg_wg (pgs_cons pg_wg pgs_nil hs2) hs) hn hst hl rfl ⟨v1, [v2], rfl, ?_⟩
    refine (h1.run B ad F H s σ x1 v1 _ r p1 t).mono2 ?_
    rintro σ1 H1 ⟨rfl, k1, s1, r1, t1⟩
    refine ⟨v2, [], rfl, (h2.run B ad F H1 s1 σ1 x2 v2 _ r1 p2 t1).mono2 ?_⟩
    rintro σ2 H2 ⟨rfl, k2, s2, r2, t2⟩
    exact ⟨rfl, rfl, k1.trans k2, s2, r2, t2⟩⟩
end
/-! ## statements -/
def nextA : TSA := fun D s => D.nx s
def seqA (t u : TSA) : TSA := fun D s => t { D with nx := u D } s
def setA (k : Nat) (te : TEA) : TSA := fun D s => te s fun x s1 => D.nx ⟨s1.sl.set k (some x), s1.cs⟩
def dropA (te : TEA) : TSA := fun D s => te s fun _ s1 => D.nx s1
def retA (te : TEA) : TSA := fun D s => te s D.rt
def retN : TSA := fun D s => D.rt (.d .none) s
def ifA (c : TTA) (t u : TSA) : TSA := fun D s => c s fun b s1 => if b = true then t D s1 else u D s1
def asgA (te : TEA) (g : TGA) : TSA := fun D s => te s fun x s1 => g x s1 D.nx
/-- fewer slots and cells are spoken of -/
def AVal.lt (n : Nat) : AVal → Prop
  | .r k => k < n
  | _ => True
def Cell.lt (n : Nat) : Cell → Prop
  | .nl xs => ∀ x ∈ xs, x.lt n
  | .nt xs => ∀ x ∈ xs, x.lt n
  | .nd kvs => ∀ p ∈ kvs, p.2.lt n
  | _ => True
structure Wk0 (m : Nat) (s s2 : AS) : Prop where
  ln : s2.sl.length = s.sl.length
  sl : ∀ (k : Nat) (x : AVal), s2.sl[k]? = some (some x) → s.sl[k]? = some (some x) ∧ x.lt s2.cs.length
  cs : ∃ more, s.cs = s2.cs ++ more
  lt : ∀ c ∈ s2.cs, c.lt s2.cs.length
  m : m ≤ s2.cs.length
theorem VOk.take {ad : List Addr} {F : Hp} {x : AVal} {v : V} {n : Nat} (h : VOk ad F x v) (hx : x.lt n) : VOk (ad.take n) F x v := by
  cases x with
  | d x => exact h
  | r k => obtain ⟨a, h1, h2⟩ := h; exact ⟨a, by rw [List.getElem?_take_of_lt hx]; exact h1, h2⟩
  | s K ns => exact h
  | a p k pt => exact h
theorem Paired.impMem {α β : Type} {R S : α → β → Prop} : ∀ {xs : List α} {ys : List β}, Paired R xs ys → (∀ x y, x ∈ xs → R x y → S x y) → Paired S xs ys
  | _, _, .nil, _ => .nil
  | _, _, .cons h t, k => .cons (k _ _ (List.mem_cons_self ..) h) (Paired.impMem t fun x y hx => k x y (List.mem_cons_of_mem _ hx))
theorem COk.take {ad : List Addr} {F H : Hp} {p : Addr} {c : Cell} {n : Nat} (h : COk ad F H p c) (hc : c.lt n) : COk (ad.take n) F H p c := by
  cases c with
  | nl xs => obtain ⟨vs, h1, h2⟩ := h; exact ⟨vs, h1, Paired.impMem h2 fun x y hx h => h.take (hc x hx)⟩
  | nt xs => obtain ⟨vs, h1, h2⟩ := h; exact ⟨vs, h1, Paired.impMem h2 fun x y hx h => h.take (hc x hx)⟩
  | nd xs => obtain ⟨vs, h1, h2⟩ := h; exact ⟨vs, h1, Paired.impMem h2 fun x y hx h => ⟨h.1, h.2.take (hc x hx)⟩⟩
  | _ => exact h
theorem Inn.take {B : Bs} {ad : List Addr} {F H : Hp} {cs cs2 more : List Cell} (r : Inn B ad F H cs) (e : cs = cs2 ++ more) : Inn B (ad.take cs2.length) F H cs2 := by
  subst e
  have sub : ∀ q, q ∈ cs2.flatMap Cell.ads → q ∈ (cs2 ++ more).flatMap Cell.ads := fun q hq => by rw [List.flatMap_append]; exact List.mem_append_left _ hq
  refine ⟨r.nd.sublist (by rw [List.flatMap_append]; exact List.sublist_append_left ..), fun q hq i hi => ?_, fun q hq => r.fr q (sub q hq), fun q hq => r.own q (sub q hq), r.old⟩
  have hl : i < cs2.length := by
    have := (List.getElem?_eq_some_iff.mp hi).1
    rw [List.length_take] at this
    omega
  rw [List.getElem?_take_of_lt hl] at hi
  have := r.off q (sub q hq) i hi
  rw [List.getElem?_append_left hl] at this
  exact this
theorem Rl.weak {B : Bs} {ad : List Addr} {F H : Hp} {s s2 : AS} {σ : St} (r : Rl B ad F H s σ) (w : Wk0 B.S.length s s2) : Rl B (ad.take s2.cs.length) F H s2 σ := by
  obtain ⟨more, em⟩ := w.cs
  have hle : s2.cs.length ≤ ad.length := by rw [r.len, em]; simp
  refine ⟨r.ff, r.fh, r.hh, r.al, r.new, ?_, r.nd.sublist (List.take_sublist _ _), by rw [List.length_take]; omega, fun i p c h1 h2 => ?_, w.ln.trans r.sln, fun k x h => ?_, r.inn.take em⟩
  · obtain ⟨ad', e, h1⟩ := r.pre
    refine ⟨ad'.take (s2.cs.length - B.S.length), ?_, fun b hb => h1 b (List.mem_of_mem_take hb)⟩
    rw [e, List.take_append, List.take_of_length_le w.m]
  · have hi : i < s2.cs.length := (List.getElem?_eq_some_iff.mp h2).1
    rw [List.getElem?_take_of_lt hi] at h1
    obtain ⟨n, l, ok⟩ := r.cel i p c h1 (by rw [em, List.getElem?_append_left hi]; exact h2)
    exact ⟨n, l, ok.take (w.lt c (List.mem_of_getElem? h2))⟩
  · obtain ⟨h1, h2⟩ := w.sl k x h
    obtain ⟨v, h3, h4⟩ := r.slt k x h1
    exact ⟨v, h3, h4.take h2⟩
def AVal.nor : AVal → Bool
  | .r _ => false
  | _ => true
theorem VOk.nor {ad ad' : List Addr} {F : Hp} {x : AVal} {v : V} (h : VOk ad F x v) (hx : x.nor = true) : VOk ad' F x v := by
  cases x with
  | r _ => cases hx
  | d _ => exact h
  | s _ _ => exact h
  | a _ _ _ => exact h
def Cell.flat : Cell → Bool
  | .nl xs => xs.all AVal.nor
  | .nt _ => false
  | .nd _ => false
  | .dl _ _ _ => false
  | _ => true
theorem COk.flat {ad ad' : List Addr} {F H : Hp} {p : Addr} {c : Cell} (h : COk ad F H p c) (hc : c.flat = true) : COk ad' F H p c := by
  cases c with
  | nl xs => obtain ⟨vs, h1, h2⟩ := h; exact ⟨vs, h1, Paired.impMem h2 fun x y hx h => h.nor (List.all_eq_true.mp hc x hx)⟩
  | nt _ => cases hc
  | nd _ => cases hc
  | _ => exact h
def subC (cs : List Cell) : List Nat → Option (List Cell)
  | [] => some []
  | n :: ns => (cs[n]?).bind fun c => (subC cs ns).map (c :: ·)
theorem subC_ok {cs : List Cell} : ∀ {ns : List Nat} {ds : List Cell}, subC cs ns = some ds → ds.length = ns.length ∧ ∀ (j : Nat) n, ns[j]? = some n → ds[j]? = cs[n]? ∧ n < cs.length
  | [], ds, h => by cases h; exact ⟨rfl, fun j n h => by simp at h⟩
  | n :: ns, ds, h => by
    have h' : (cs[n]?).bind (fun c => (subC cs ns).map (c :: ·)) = some ds := h
    cases hc : cs[n]? with
    | none => rw [hc] at h'; cases h'
    | some c =>
      rw [hc] at h'
      cases hs : subC cs ns with
      | none => rw [hs] at h'; cases h'
      | some es =>
        rw [hs] at h'
        cases h'
        obtain ⟨h1, h2⟩ := subC_ok hs
        refine ⟨by simp [h1], fun j m hj => ?_⟩
        cases j with
        | zero =>
          have : n = m := by simpa using hj
          subst this
          exact ⟨by simp [hc], (List.getElem?_eq_some_iff.mp hc).1⟩
        | succ j => simpa using h2 j m (by simpa using hj)
theorem sublist_flatMap {cs ds : List Cell} (h : cs.Sublist ds) : (cs.flatMap Cell.ads).Sublist (ds.flatMap Cell.ads) := by
  induction h with
  | slnil => exact List.Sublist.refl _
  | cons a h ih => rw [List.flatMap_cons]; exact ih.trans (List.sublist_append_right _ _)
  | cons_cons a h ih => rw [List.flatMap_cons, List.flatMap_cons]; exact List.Sublist.append (List.Sublist.refl _) ih
theorem flat_nd {cs : List Cell} : (cs.flatMap Cell.ads).Nodup ↔ (∀ (i : Nat) c, cs[i]? = some c → c.ads.Nodup) ∧ ∀ (i j : Nat) c d q, cs[i]? = some c → cs[j]? = some d → q ∈ c.ads → q ∈ d.ads → i = j := by
  rw [List.nodup_iff_pairwise_ne, List.pairwise_flatMap, List.pairwise_iff_getElem]
  constructor
  · rintro ⟨h1, h2⟩
    refine ⟨fun i c hc => List.nodup_iff_pairwise_ne.mpr (h1 c (List.mem_of_getElem? hc)), fun i j c d q hc hd hqc hqd => ?_⟩
    obtain ⟨li, ei⟩ := List.getElem?_eq_some_iff.mp hc
    obtain ⟨lj, ej⟩ := List.getElem?_eq_some_iff.mp hd
    rcases Nat.lt_trichotomy i j with h | h | h
    · exact absurd rfl (h2 i j li lj h q (by rw [ei]; exact hqc) q (by rw [ej]; exact hqd))
    · exact h
    · exact absurd rfl (h2 j i lj li h q (by rw [ej]; exact hqd) q (by rw [ei]; exact hqc))
  · rintro ⟨h1, h2⟩
    refine ⟨fun c hc => ?_, fun i j li lj hij x hx y hy e => ?_⟩
    · obtain ⟨i, hi⟩ := List.mem_iff_getElem?.mp hc
      exact List.nodup_iff_pairwise_ne.mp (h1 i c hi)
    · subst e
      have := h2 i j _ _ x (List.getElem?_eq_getElem li) (List.getElem?_eq_getElem lj) hx hy
      omega
/-- cells taken out, the first ones in their place -/
def partQ (m : Nat) (ns : List Nat) : AVal → AVal
  | .r n => if n < m then .r n else .r (m + ns.idxOf n)
  | .a p n pt => if n < m then .a p n pt else .a p (m + ns.idxOf n) pt
  | x => x
def hasR (m : Nat) (ns : List Nat) : AVal → Prop
  | .r n => n < m ∨ n ∈ ns
  | _ => True
structure Wq (m : Nat) (s s2 : AS) : Prop where
  ln : s2.sl.length = s.sl.length
  mm : m ≤ s.cs.length
  pk : ∃ ns new, ns.Nodup ∧ (∀ n ∈ ns, m ≤ n) ∧ subC s.cs ns = some new ∧ s2.cs = s.cs.take m ++ new ∧ (∀ c ∈ s2.cs, c.flat = true) ∧ ∀ (k : Nat) (x : AVal), s2.sl[k]? = some (some x) → ∃ y, s.sl[k]? = some (some y) ∧ x = partQ m ns y ∧ hasR m ns y
theorem Rl.pick {B : Bs} {ad : List Addr} {F H : Hp} {s s2 : AS} {σ : St} (r : Rl B ad F H s σ) (w : Wq B.S.length s s2) : ∃ ad', Rl B ad' F H s2 σ := by
  obtain ⟨hln, hmm, ns, new, nd, hn, hs, ecs, hf, hsl⟩ := w
  obtain ⟨sl2, cs2⟩ := s2
  simp only at ecs
  subst ecs
  obtain ⟨h1, h2⟩ := subC_ok hs
  obtain ⟨n1, n2⟩ := flat_nd.mp r.inn.nd
  obtain ⟨ad', e, hpre⟩ := r.pre
  have hl : B.S.length ≤ s.cs.length := hmm
  have ex0 : ∀ ms : List Nat, (∀ n ∈ ms, n < ad.length) → ∃ ex : List Addr, ex.length = ms.length ∧ ∀ (j : Nat) n, ms[j]? = some n → ex[j]? = ad[n]? := by
    intro ms
    induction ms with
    | nil => intro _; exact ⟨[], rfl, fun j n h => by simp at h⟩
    | cons m ms ih =>
      intro h
      obtain ⟨a', l', e'⟩ := ih fun n hn => h n (List.mem_cons_of_mem _ hn)
      have hm := h m (List.mem_cons_self ..)
      refine ⟨ad[m] :: a', by simp [l'], fun j n hj => ?_⟩
      cases j with
      | zero =>
        have : m = n := by simpa using hj
        subst this
        simp [List.getElem?_eq_getElem hm]
      | succ j => simpa using e' j n (by simpa using hj)
  have hlt : ∀ n ∈ ns, n < ad.length := fun n hn => by
    obtain ⟨j, hj⟩ := List.mem_iff_getElem?.mp hn
    rw [r.len]; exact (h2 j n hj).2
  obtain ⟨ex, lx, hx⟩ := ex0 ns hlt
  refine ⟨B.S ++ ex, ?_⟩
  have from' : ∀ i, i < B.S.length + ns.length → ∃ i', (B.S ++ ex)[i]? = ad[i']? ∧ (s.cs.take B.S.length ++ new)[i]? = s.cs[i']? ∧ ((i < B.S.length ∧ i' = i) ∨ (B.S.length ≤ i ∧ ns[i - B.S.length]? = some i')) := by
    intro i hi
    by_cases him : i < B.S.length
    · refine ⟨i, ?_, ?_, .inl ⟨him, rfl⟩⟩
      · rw [List.getElem?_append_left him, e, List.getElem?_append_left him]
      · rw [List.getElem?_append_left (by rw [List.length_take]; omega), List.getElem?_take_of_lt him]
    · have hj : ns[i - B.S.length]? = some (ns[i - B.S.length]'(by omega)) := List.getElem?_eq_getElem (by omega)
      refine ⟨_, ?_, ?_, .inr ⟨by omega, hj⟩⟩
      · rw [List.getElem?_append_right (by omega), hx _ _ hj]
      · rw [List.getElem?_append_right (by rw [List.length_take]; omega), List.length_take, Nat.min_eq_left hl, (h2 _ _ hj).1]
  have inj : ∀ i j i', ((i < B.S.length ∧ i' = i) ∨ (B.S.length ≤ i ∧ ns[i - B.S.length]? = some i')) → ((j < B.S.length ∧ i' = j) ∨ (B.S.length ≤ j ∧ ns[j - B.S.length]? = some i')) → i = j := by
    intro i j i' h h'
    rcases h with ⟨h, e1⟩ | ⟨h, e1⟩ <;> rcases h' with ⟨h', e2⟩ | ⟨h', e2⟩
    · omega
    · have := hn i' (List.mem_of_getElem? e2); omega
    · have := hn i' (List.mem_of_getElem? e1); omega
    · have := (List.getElem?_inj (List.getElem?_eq_some_iff.mp e1).1 nd).mp (e1.trans e2.symm)
      omega
  have lenC : (s.cs.take B.S.length ++ new).length = B.S.length + ns.length := by rw [List.length_append, List.length_take, h1]; omega
  have lenA : (B.S ++ ex).length = B.S.length + ns.length := by rw [List.length_append, lx]
  have look : ∀ (i : Nat) c, (s.cs.take B.S.length ++ new)[i]? = some c → ∃ i', (B.S ++ ex)[i]? = ad[i']? ∧ s.cs[i']? = some c ∧ ((i < B.S.length ∧ i' = i) ∨ (B.S.length ≤ i ∧ ns[i - B.S.length]? = some i')) := fun i c hc => by
    have hi := (List.getElem?_eq_some_iff.mp hc).1
    obtain ⟨i', e1, e2, e3⟩ := from' i (by omega)
    exact ⟨i', e1, by rw [← e2]; exact hc, e3⟩
  have up : ∀ q, q ∈ (s.cs.take B.S.length ++ new).flatMap Cell.ads → q ∈ s.cs.flatMap Cell.ads := fun q hq => by
    obtain ⟨c, hc, hq⟩ := List.mem_flatMap.mp hq
    obtain ⟨i, hi⟩ := List.mem_iff_getElem?.mp hc
    obtain ⟨i', _, e2, _⟩ := look i c hi
    exact mem_ads e2 hq
  refine ⟨r.ff, r.fh, r.hh, r.al, r.new, ⟨ex, rfl, fun b hb => ?_⟩, ?_, by rw [lenA]; exact lenC.symm, fun i p c h3 h4 => ?_, hln.trans r.sln, fun k x h => ?_, ⟨flat_nd.mpr ⟨fun i c hc => ?_, fun i j c d q hc hd hqc hqd => ?_⟩, fun q hq i hi => ?_, fun q hq => r.inn.fr q (up q hq), fun q hq => r.inn.own q (up q hq), r.inn.old⟩⟩
  · obtain ⟨j, hj⟩ := List.mem_iff_getElem?.mp hb
    have hjl := (List.getElem?_eq_some_iff.mp hj).1
    have hj2 : ns[j]? = some (ns[j]'(by omega)) := List.getElem?_eq_getElem (by omega)
    rw [hx j _ hj2, e, List.getElem?_append_right (hn _ (List.mem_of_getElem? hj2))] at hj
    exact hpre b (List.mem_of_getElem? hj)
  · rw [List.nodup_iff_pairwise_ne, List.pairwise_iff_getElem]
    intro i j hi hj hij ee
    obtain ⟨i', a1, _, a3⟩ := from' i (by omega)
    obtain ⟨j', b1, _, b3⟩ := from' j (by omega)
    have g1 : ad[i']? = some (B.S ++ ex)[i] := by rw [← a1]; exact List.getElem?_eq_getElem hi
    have g2 : ad[j']? = some (B.S ++ ex)[i] := by rw [← b1, ee]; exact List.getElem?_eq_getElem hj
    have := nodup_get r.nd g1 g2
    subst this
    have := inj i j i' a3 b3
    omega
  · have h4 : (s.cs.take B.S.length ++ new)[i]? = some c := h4
    obtain ⟨i', e1, e2, _⟩ := look i c h4
    rw [e1] at h3
    obtain ⟨g1, g2, g3⟩ := r.cel i' p c h3 e2
    exact ⟨g1, g2, g3.flat (hf c (List.mem_of_getElem? h4))⟩
  · obtain ⟨y, hy, ex', hr⟩ := hsl k x h
    obtain ⟨v, hv, ok⟩ := r.slt k y hy
    refine ⟨v, hv, ?_⟩
    subst ex'
    cases y with
    | d y => exact ok
    | s _ _ => exact ok
    | a p n pt =>
      show VOk (B.S ++ ex) F (if n < B.S.length then .a p n pt else .a p (B.S.length + ns.idxOf n) pt) v
      split <;> exact ok
    | r n =>
      obtain ⟨a, g1, g2⟩ := ok
      show VOk (B.S ++ ex) F (if n < B.S.length then .r n else .r (B.S.length + ns.idxOf n)) v
      split
      · rename_i hlt
        refine ⟨a, ?_, g2⟩
        rw [e, List.getElem?_append_left hlt] at g1
        rw [List.getElem?_append_left hlt]; exact g1
      · rename_i hlt
        have hmem : n ∈ ns := hr.resolve_left hlt
        have hil := List.idxOf_lt_length_of_mem hmem
        have e2 : ns[ns.idxOf n]? = some n := by rw [List.getElem?_eq_getElem hil, List.getElem_idxOf]
        refine ⟨a, ?_, g2⟩
        rw [List.getElem?_append_right (by omega), Nat.add_sub_cancel_left, hx _ n e2]
        exact g1
  · obtain ⟨i', _, e2, _⟩ := look i c hc
    exact n1 i' c e2
  · obtain ⟨i', _, e2, e3⟩ := look i c hc
    obtain ⟨j', _, f2, f3⟩ := look j d hd
    have := n2 i' j' c d q e2 f2 hqc hqd
    subst this
    exact inj i j i' e3 f3
  · have hil := (List.getElem?_eq_some_iff.mp hi).1
    obtain ⟨i', e1, e2, _⟩ := from' i (by omega)
    rw [e1] at hi
    have := r.inn.off q (up q hq) i' hi
    rw [← e2] at this
    exact this
def Wk (m : Nat) (s s2 : AS) : Prop := Wk0 m s s2 ∨ Wq m s s2
theorem Rl.weakX {B : Bs} {ad : List Addr} {F H : Hp} {s s2 : AS} {σ : St} (r : Rl B ad F H s σ) (w : Wk B.S.length s s2) : ∃ ad', Rl B ad' F H s2 σ := w.elim (fun w => ⟨_, r.weak w⟩) r.pick
section
variable {X : Cx} {B : Bs} {st : Stmt} {rest body orelse : List Stmt} {t u : TSA} {e c : Expr} {te : TEA} {tx : TTA} {pos p : Pos} {x : Str} {g : TGA} {ks : List Nat} {tg : Expr}
theorem ss_nilA : SS X B [] nextA := ⟨fun D s h ad F H σ r => ss_nil ⟨ad, F, s, r, h⟩⟩
theorem ss_consA (h1 : SA X B st t) (h2 : SS X B rest u) : SS X B (st :: rest) (seqA t u) := ⟨fun D s h ad F H σ r => ss_cons (WS.nx (D := liftD B D) (M := fun σ H => ∃ ad F s, Rl B ad F H s σ ∧ u D s) (h1.run { D with nx := u D } s h ad F H σ r) fun σ' H' ⟨ad', F', s', r', h'⟩ => h2.run D s' h' ad' F' H' σ' r')⟩
theorem ss_oneA (h1 : SA X B st t) : SS X B [st] t := ⟨fun D s h ad F H σ r => ss_one (h1.run D s h ad F H σ r)⟩
theorem sa_set (k : Nat) (hN : X.N.Nodup) (he : EA X B e te) (hs : swapsWith e (some (.Name x p)) pos.line X.env = pure false := by rfl) (hi : X.N[k]? = some x := by rfl) (hx : Loc X.env.scope x := by first | exact .inl rfl | exact .inr rfl)
    (hf : X.fn x = true ∨ X.env.scope.names.lookup x = some .local := by first | exact .inl rfl | exact .inr rfl) : SA X B (.Assign [.Name x p] e pos) (setA k te) := ⟨fun D s h ad F H σ r => ws_set k hN ((he.run ad F H s σ _ r h).imp fun v H1 q => by
  obtain ⟨ad1, F1, y, s1, e1, k1, r1, hv, q⟩ := q
  exact ⟨ad1, F1, _, r1.set hv, q⟩) hs hi hx hf⟩
theorem sa_expr (he : EA X B e te) (hs : swapsWith e none pos.line X.env = pure false := by rfl) : SA X B (.Expr e pos) (dropA te) := ⟨fun D s h ad F H σ r => ws_expr ((he.run ad F H s σ _ r h).imp fun v H1 q => by
  obtain ⟨ad1, F1, y, s1, e1, k1, r1, hv, q⟩ := q
  exact ⟨ad1, F1, s1, r1, q⟩) hs⟩
theorem sa_ret (he : EA X B e te) : SA X B (.Return (some e) pos) (retA te) := ⟨fun D s h ad F H σ r => ws_ret ((he.run ad F H s σ _ r h).imp fun v H1 q => by
  obtain ⟨ad1, F1, y, s1, e1, k1, r1, hv, q⟩ := q
  exact ⟨ad1, F1, y, s1, σ, r1, hv, q⟩)⟩
theorem sa_if (hc : ET X B c tx) (h1 : SS X B body t) (h2 : SS X B orelse u) : SA X B (.If c body orelse pos) (ifA tx t u) := ⟨fun D s h ad F H σ r => ws_if ((hc.run ad F H s σ _ r h).imp fun b H1 q => by
  obtain ⟨ad1, F1, s1, e1, k1, r1, q⟩ := q
  cases b with
  | true => rw [if_pos rfl] at q; exact iteT (h1.run D s1 q ad1 F1 H1 σ r1)
  | false => exact iteF (h2.run D s1 q ad1 F1 H1 σ r1))⟩
theorem sa_asg (he : EA X B e te) (hg : GT X tg ks g) (hs : swapsWithSole [tg] e pos.line X.env = pure false := by rfl) (hw : swappedStores [tg] e X.env = pure none := by rfl)
    (h1 : (assignEach [tg] X.env).map (·.2) = [assign tg X.env] := by rfl) : SA X B (.Assign [tg] e pos) (asgA te g) := ⟨fun D s h ad F H σ r => ws_asg ((he.run ad F H s σ _ r h).imp fun v H1 q => by
  obtain ⟨ad1, F1, y, s1, e1, k1, r1, hv, q⟩ := q
  refine (hg.run B ad1 F1 H1 s1 σ y v _ r1 hv q).mono2 ?_
  rintro σ2 H2 ⟨rfl, k2, s2, r2, q2⟩
  exact ⟨ad1, F1, s2, r2, q2⟩) hs hw h1⟩
end
/-! ## what is walked -/
structure IA (X : Cx) (B : Bs) (tg iter : Expr) (t : AS → (List PyData → AS → Prop) → Prop) : Prop where
  run : ∀ ad F H s σ (Q : List PyData → AS → Prop) (R : It → Hp → Prop), Rl B ad F H s σ → t s Q → (∀ J ad2 F2 H2 s2 ds, Ext ad ad2 → Same F F2 → Rl B ad2 F2 H2 s2 σ → Walks J F2 ds → ds.length ≤ sizeLine → Q ds s2 → R J H2) → WI X tg iter σ H R
/-- F may be the floor of a loop's body -/
structure Fl (B : Bs) (F : Hp) : Prop where
  ff : Same B.F0 F
  new : ∀ b, B.F0 b = none → B.H0 b ≠ none → F b = none
theorem Rl.flr {B : Bs} {ad : List Addr} {F H : Hp} {s : AS} {σ : St} (r : Rl B ad F H s σ) : Fl B F := ⟨r.ff, r.new⟩
def forW (m : Nat) (g : TGA) (t : TSA) (D : DA) : List PyData → AS → Prop
  | [], s => D.nx s
  | x :: xs, s => g (.d x) s fun s1 => t ⟨fun s2 => ∃ s3, Wk m s2 s3 ∧ forW m g t D xs s3, D.rt, D.nx, fun s2 => ∃ s3, Wk m s2 s3 ∧ forW m g t D xs s3⟩ s1
def forA (m : Nat) (ti : AS → (List PyData → AS → Prop) → Prop) (g : TGA) (t : TSA) : TSA := fun D s => ti s fun ds s1 => forW m g t D ds s1
section
variable {X : Cx} {B : Bs} {tg iter : Expr} {body : List Stmt} {t : TSA} {ti : AS → (List PyData → AS → Prop) → Prop} {g : TGA} {ks : List Nat} {pos : Pos}
theorem drop_get {α : Type} {l : List α} {i : Nat} {x : α} (h : l[i]? = some x) : l.drop i = x :: l.drop (i + 1) := by
  obtain ⟨hl, e⟩ := List.getElem?_eq_some_iff.mp h
  rw [List.drop_eq_getElem_cons hl, e]
theorem sa_for (hp : PassesOwn (model X.prog X.w) X.A X.env X.xe) (hc : X.calm = true) (hi : IA X B tg iter ti) (hg : GT X tg ks g) (hb : ∀ F, Fl B F → SS X (B.fl F) body t) (hs : ∀ x, foldedSetIterable iter X.env x = pure x := by intro _; rfl) :
    SA X B (.For tg iter body [] pos) (forA B.S.length ti g t) := ⟨fun D s h ad F H σ r => ws_of (ps_for hp hc pi_wi pg_wg pss_wss hs) (hi.run ad F H s σ _ _ r h fun J ad2 F2 H2 s2 ds e2 k2 r2 w hz q => by
  refine ⟨fun i m σ' H' => m = ds.length - i ∧ i ≤ ds.length ∧ ∃ ad' F' s', Same F2 F' ∧ Rl B ad' F' H' s' σ' ∧ forW B.S.length g t D (ds.drop i) s', ⟨ds.length, by simp, Nat.zero_le _, ad2, F2, s2, Same.refl _, r2, q⟩, ?_⟩
  rintro i m σ' H' ⟨rfl, hi', ad', F', s', s1, r', q'⟩
  obtain ⟨w1, w2⟩ := w F' H' s1 r'.fh
  by_cases hlt : i < ds.length
  · have e : ds[i]? = some ds[i] := List.getElem?_eq_getElem hlt
    obtain ⟨go, yl⟩ := w1 i _ e
    rw [drop_get e] at q'
    refine .inr ⟨go, fun σ3 H3 => ∃ ad3 F3 s3, Same F2 F3 ∧ Rl B ad3 F3 H3 s3 σ3 ∧ forW B.S.length g t D (ds.drop (i + 1)) s3, fun σ3 H3 p' => ⟨ds.length - (i + 1), by omega, rfl, hlt, p'⟩, fun x H4 y => ?_⟩
    obtain ⟨F4, g4, hd⟩ := yl x H4 y
    have r4 := r'.gr g4
    refine (hg.run B ad' F4 H4 s' σ' (.d ds[i]) x _ r4 hd q').mono2 ?_
    rintro σ5 H5 ⟨rfl, k5, s5, r5, q5⟩
    intro pins sh I
    refine thn ((hb F4 r5.flr).run _ s5 q5 ad' F4 H5 σ5 r5.floor pins sh I) fun f s6 z => ?_
    cases f with
    | next =>
      obtain ⟨σ2, H2, I2, ad2, F2', s2, r2', s3, wk, w3⟩ := z
      obtain ⟨ad9, r9⟩ := (r5.unfloor r2').weakX wk
      exact ⟨σ2, H2, I2, ad9, F2', s3, s1.trans (g4.ff.trans r2'.ff), r9, w3⟩
    | brk =>
      obtain ⟨σ2, H2, I2, ad2, F2', s2, r2', w3⟩ := z
      exact ⟨σ2, H2, I2, ad2, F2', s2, r5.unfloor r2', w3⟩
    | cont =>
      obtain ⟨σ2, H2, I2, ad2, F2', s2, r2', s3, wk, w3⟩ := z
      obtain ⟨ad9, r9⟩ := (r5.unfloor r2').weakX wk
      exact ⟨σ2, H2, I2, ad9, F2', s3, s1.trans (g4.ff.trans r2'.ff), r9, w3⟩
    | ret u =>
      obtain ⟨v, σ2, H2, I2, rv, ad2, F2', x2, s2, σ3, r2', hv, w3⟩ := z
      exact ⟨v, σ2, H2, I2, rv, ad2, F2', x2, s2, σ3, r5.unfloor r2', hv, w3⟩
  · have e : i = ds.length := by omega
    subst e
    rw [List.drop_length] at q'
    exact .inl ⟨w2, ad', F', s', r', q'⟩)⟩
end
end Kr
/-! layer A4 -/
namespace Kr
open PySem L2
section
variable {B : Bs} {ad : List Addr} {F H : Hp} {s : AS} {σ : St} {D : Addr} {o : HO}
/-- a thing aside changes, or goes -/
theorem Rl.aput (r : Rl B ad F H s σ) (h1 : D ∉ ad) (h2 : F D = none) (h3 : B.H0 D = none) (h4 : D ∉ s.cs.flatMap Cell.ads) (h5 : D ∉ B.T) : Rl B ad F (upd H D o) s σ := by
  have hS : D ∉ B.S := fun z => h1 (let ⟨ad', e, _⟩ := r.pre; e ▸ List.mem_append_left _ z)
  have hq : ∀ q, q ∈ s.cs.flatMap Cell.ads → q ≠ D := fun q hq z => h4 (z ▸ hq)
  refine ⟨r.ff, same_mut r.fh h2, fun b u hb ht e => ?_, fun b hb => ?_, r.new, r.pre, r.nd, r.len, fun i p c e1 e2 => ?_, r.sln, r.slt, ⟨r.inn.nd, r.inn.off, fun q h => ⟨(r.inn.fr q h).1, by rw [upd_ne (hq q h)]; exact (r.inn.fr q h).2⟩, r.inn.own, r.inn.old⟩⟩
  · rw [upd_ne (ne_of_none e h3)]; exact r.hh b u hb ht e
  · rw [upd_ne (fun z => by subst z; exact hb.elim hS h5)]; exact r.al b hb
  · have hp : p ≠ D := fun z => h1 (z ▸ List.mem_of_getElem? e1)
    obtain ⟨n, l, ok⟩ := r.cel i p c e1 e2
    exact ⟨by rw [upd_ne hp]; exact n, l, ok.mono (Ext.refl _) (Same.refl _) (fun o' e => by rw [upd_ne hp]; exact e) fun q h o' e => by rw [upd_ne (hq q (mem_ads e2 h))]; exact e⟩
def out (H : Hp) (D : Addr) : Hp := fun b => if b = D then none else H b
theorem out_ne {b : Addr} (h : b ≠ D) : out H D b = H b := if_neg h
theorem out_same : out H D D = none := if_pos rfl
theorem upd_out (h : H D = some o) : upd (out H D) D o = H := by
  funext b
  by_cases hb : b = D
  · subst hb; rw [upd_same, h]
  · rw [upd_ne hb, out_ne hb]
theorem Rl.aout (r : Rl B ad F H s σ) (h1 : D ∉ ad) (h2 : F D = none) (h3 : B.H0 D = none) (h4 : D ∉ s.cs.flatMap Cell.ads) (h5 : D ∉ B.T) : Rl B ad F (out H D) s σ := by
  have hS : D ∉ B.S := fun z => h1 (let ⟨ad', e, _⟩ := r.pre; e ▸ List.mem_append_left _ z)
  have hq : ∀ q, q ∈ s.cs.flatMap Cell.ads → q ≠ D := fun q hq z => h4 (z ▸ hq)
  refine ⟨r.ff, fun b o e => ?_, fun b u hb ht e => ?_, fun b hb => ?_, r.new, r.pre, r.nd, r.len, fun i p c e1 e2 => ?_, r.sln, r.slt, ⟨r.inn.nd, r.inn.off, fun q h => ⟨(r.inn.fr q h).1, by rw [out_ne (hq q h)]; exact (r.inn.fr q h).2⟩, r.inn.own, r.inn.old⟩⟩
  · rw [out_ne (ne_of_none e h2)]; exact r.fh b o e
  · rw [out_ne (ne_of_none e h3)]; exact r.hh b u hb ht e
  · rw [out_ne (fun z => by subst z; exact hb.elim hS h5)]; exact r.al b hb
  · have hp : p ≠ D := fun z => h1 (z ▸ List.mem_of_getElem? e1)
    obtain ⟨n, l, ok⟩ := r.cel i p c e1 e2
    exact ⟨by rw [out_ne hp]; exact n, l, ok.mono (Ext.refl _) (Same.refl _) (fun o' e => by rw [out_ne hp]; exact e) fun q h o' e => by rw [out_ne (hq q (mem_ads e2 h))]; exact e⟩
end
/-! ## comprehensions -/
def AVal.data? : AVal → Option PyData | .d x => some x | _ => none
theorem AVal.data?_of {x : AVal} {d : PyData} (h : x.data? = some d) : x = .d d := by
  cases x with
  | d y => cases h; rfl
  | r n => cases h
  | s _ _ => cases h
  | a _ _ _ => cases h
theorem AVal.data?_d {d : PyData} : (AVal.d d).data? = some d := rfl
abbrev TIO := AS → (List PyData → (List Cell → Prop) → AS → Prop) → Prop
def lcW (g : TGA) (tt : TTA) (te : TEA) (vs : List Nat) (ok : List Cell → Prop) (sl : List (Option AVal)) : List PyData → List PyData → List Cell → (List PyData → List Cell → Prop) → Prop
  | [], acc, cs, Q => ok cs ∧ Q acc cs
  | x :: xs, acc, cs, Q => ok cs ∧ g (.d x) ⟨wipeA sl vs, cs⟩ fun s1 => tt s1 fun b s2 => if b = true then te s2 fun y s3 => onSome y.data? fun d => lcW g tt te vs ok sl xs (acc ++ [d]) s3.cs Q else lcW g tt te vs ok sl xs acc s2.cs Q
def yesA : TTA := fun s Q => Q true s
def lcN (ti : TIO) (g : TGA) (tt : TTA) (te : TEA) (vs : List Nat) : TNA := fun s Q => ti s fun ds ok s1 => lcW g tt te vs ok s1.sl ds [] s1.cs fun acc cs => Q (.lst acc) ⟨s1.sl, cs⟩
/-- what is walked may be a list of our own that stands still -/
def WalksO (J : It) (ad2 : List Addr) (F2 : Hp) (ds : List PyData) (ok : List Cell → Prop) : Prop := ∀ (B3 : Bs) (ad3 : List Addr) (F3 H3 : Hp) (s3 : AS) (σ3 : St), Ext ad2 ad3 → Same F2 F3 → Rl B3 ad3 F3 H3 s3 σ3 → ok s3.cs →
  (∀ (i : Nat) d, ds[i]? = some d → J.go i H3 ∧ ∀ x H4, J.yld i H3 x H4 → ∃ F4, Gr F3 H3 F4 H4 ∧ Da F4 d x) ∧ J.stop ds.length H3
structure IO (X : Cx) (B : Bs) (tg iter : Expr) (t : TIO) : Prop where
  run : ∀ ad F H s σ Q (R : It → Hp → Prop), Rl B ad F H s σ → t s Q → (∀ J ad2 F2 H2 s2 ds ok, Ext ad ad2 → Same F F2 → Rl B ad2 F2 H2 s2 σ → WalksO J ad2 F2 ds ok → ds.length ≤ sizeLine → Q ds ok s2 → R J H2) → WI X tg iter σ H R
def ioT (t : AS → (List PyData → AS → Prop) → Prop) : TIO := fun s Q => t s fun ds s1 => Q ds (fun _ => True) s1
theorem IO.of {X : Cx} {B : Bs} {tg iter : Expr} {t : AS → (List PyData → AS → Prop) → Prop} (h : IA X B tg iter t) : IO X B tg iter (ioT t) := ⟨fun ad F H s σ Q R r ht k => h.run ad F H s σ _ R r ht fun J ad2 F2 H2 s2 ds e2 k2 r2 w hz q => k J ad2 F2 H2 s2 ds _ e2 k2 r2 (fun B3 ad3 F3 H3 s3 σ3 _ k3 r3 _ => w F3 H3 k3 r3.fh) hz q⟩
section
variable {X : Cx} {B : Bs} {σ : St} {F H : Hp} {elt tg iter c : Expr} {scope : Scope} {pos spos py : Pos} {own : List (Str × Nat)} {y : Str} {ti : TIO} {g : TGA} {tt : TTA} {te : TEA} {ks vs : List Nat}
theorem lc_coreB {T : TT} (hg : ∀ s H0 C cl fp, GT (Blk X scope s H0 C cl fp) tg ks g) (hk : ∀ k ∈ ks, k ∈ vs)
    (ht : ∀ B' ad F H s σ Q, Rl B' ad F H s σ → tt s Q → T σ H (PostT B' ad F σ Q)) (hT : ∀ σ H (Q Q' : Bool → Hp → Prop), T σ H Q → (∀ b H', Q b H' → Q' b H') → T σ H Q')
    (he : ∀ s H0 C cl fp B', EA (Blk X scope s H0 C cl fp) B' elt te) {ad : List Addr} {s : AS} {Q : Cell → AS → Prop} {K : VK}
    (hi : ∀ (Q : List PyData → (List Cell → Prop) → AS → Prop) (R : It → Hp → Prop), ti s Q → (∀ J ad2 F2 H2 s2 ds ok, Ext ad ad2 → Same F F2 → Rl B ad2 F2 H2 s2 σ → WalksO J ad2 F2 ds ok → ds.length ≤ sizeLine → Q ds ok s2 → R J H2) → WI X tg iter σ H R) (r : Rl B ad F H s σ) (t : lcN ti g tt te vs s Q) (hK : ∀ v H', PostN B ad F σ Q v H' → K v H') :
    tLc (WI X tg iter) (gB X scope tg) T (eB X scope elt) vs σ H K := by
  refine hi _ _ t fun J ad2 F2 H2 s2 ds ok e2 k2 r2 w hz q D hD => ?_
  obtain ⟨f1, f2, f3⟩ := r2.fresh hD
  have hF2 : F2 D = none := r2.fh.free hD
  refine ⟨fun i m H' => m = ds.length - i ∧ i ≤ ds.length ∧ ∃ ad' F' cs acc ys, Same F2 F' ∧ Ext ad2 ad' ∧ Rl B ad' F' H' ⟨s2.sl, cs⟩ σ ∧ H' D = some (.lst ys) ∧ F' D = none ∧ (D ∉ ad' ∧ D ∉ cs.flatMap Cell.ads) ∧ DaAll F' acc ys ∧ acc.length ≤ i ∧ lcW g tt te vs ok s2.sl (ds.drop i) acc cs (fun acc cs => Q (.lst acc) ⟨s2.sl, cs⟩),
    ⟨ds.length, by simp, Nat.zero_le _, ad2, F2, s2.cs, [], [], Same.refl _, Ext.refl _, r2.gr ((Gr.refl r2.fh).open' hD), upd_same, hF2, ⟨f3, fun z => (r2.inn.fr D z).2 hD⟩, daAll_nil, Nat.le_refl _, q⟩, ?_⟩
  rintro i m H' ⟨rfl, hi', ad', F', cs, acc, ys, sF, eF, r', hHD, hFD, ⟨hDad, hDt⟩, hda, hacc, q'⟩
  have hok : ok cs := by
    cases hdr : ds.drop i with
    | nil => rw [hdr] at q'; exact q'.1
    | cons _ _ => rw [hdr] at q'; exact q'.1
  obtain ⟨w1, w2⟩ := w B ad' F' H' ⟨s2.sl, cs⟩ σ eF sF r' hok
  by_cases hlt : i < ds.length
  · have e0 : ds[i]? = some ds[i] := List.getElem?_eq_getElem hlt
    obtain ⟨go, yl⟩ := w1 i _ e0
    rw [drop_get e0] at q'
    refine .inr ⟨go, fun H3 => i + 1 ≤ ds.length ∧ ∃ ad' F' cs acc ys, Same F2 F' ∧ Ext ad2 ad' ∧ Rl B ad' F' H3 ⟨s2.sl, cs⟩ σ ∧ H3 D = some (.lst ys) ∧ F' D = none ∧ (D ∉ ad' ∧ D ∉ cs.flatMap Cell.ads) ∧ DaAll F' acc ys ∧ acc.length ≤ i + 1 ∧ lcW g tt te vs ok s2.sl (ds.drop (i + 1)) acc cs (fun acc cs => Q (.lst acc) ⟨s2.sl, cs⟩),
      fun H3 p' => ⟨ds.length - (i + 1), by omega, rfl, p'⟩, fun x H4 y => ?_⟩
    obtain ⟨F4, g4, hd⟩ := yl x H4 y
    have r4 := r'.gr g4
    have hHD4 := g4.hh _ _ hHD
    have hFD4 : F4 D = none := g4.f0 hFD hHD
    have rw4 := r4.wipe vs
    intro s0 H0 C cl fp
    refine ((hg s0 H0 C cl fp).run _ ad' F4 H4 _ _ (.d ds[i]) x _ rw4.base hd q'.2).mono2 ?_
    rintro σ5 H5 ⟨rfl, k5, s5, r5, q5⟩
    refine ⟨wipe_keeps k5 hk, hT _ _ _ _ (ht _ ad' F4 H5 s5 σ5 _ r5 q5) fun b H6 q6 => ?_⟩
    obtain ⟨ad6, F6, s6, e6, k6, r6, q6⟩ := q6
    cases b with
    | true =>
      rw [if_pos rfl] at q6
      refine iteT ?_
      intro s0 H0 C cl fp
      refine ((he s0 H0 C cl fp _).run ad6 F6 H6 s6 σ5 _ r6 q6).imp fun v H7 q7 => ?_
      obtain ⟨ad7, F7, z, s7, e7, k7, r7, hv, d, hd7, q7⟩ := q7
      have := AVal.data?_of hd7
      subst this
      obtain ⟨h1, h2, h3, h9⟩ := r7.aside hDad hDt hHD4 hFD4
      have rb := r4.back (rw4.rebase r7) (e6.trans e7) (k6.trans k7)
      refine ⟨ys, h1, ?_, hlt, ad7, F7, s7.cs, acc ++ [d], ys ++ [v], sF.trans (g4.ff.trans (k6.trans k7)), eF.trans (e6.trans e7), rb.aput h3 h2 f1 h9 (r2.offT hD), upd_same, h2, ⟨h3, h9⟩, (hda.mono (g4.ff.trans (k6.trans k7))).snoc hv, by simp; omega, q7⟩
      have h8 := hda.length
      omega
    | false =>
      obtain ⟨h1, h2, h3, h9⟩ := r6.aside hDad hDt hHD4 hFD4
      have rb := r4.back (rw4.rebase r6) e6 k6
      exact iteF ⟨hlt, ad6, F6, s6.cs, acc, ys, sF.trans (g4.ff.trans k6), eF.trans e6, rb, h1, h2, ⟨h3, h9⟩, hda.mono (g4.ff.trans k6), by omega, q6⟩
  · have e : i = ds.length := by omega
    subst e
    rw [List.drop_length] at q'
    refine .inl ⟨w2, hK _ _ ⟨ad', F', .lst acc, ⟨s2.sl, cs⟩, D, out H' D, .lst ys, e2.trans eF, k2.trans sF, r'.aout hDad hFD f1 hDt (r2.offT hD), rfl, out_same, (upd_out hHD).symm, ⟨ys, hHD, hda⟩, rfl, q'.2⟩⟩
theorem lc_coreA {T : TT} (hi : IO X B tg iter ti) (hg : ∀ s H0 C cl fp, GT (Blk X scope s H0 C cl fp) tg ks g) (hk : ∀ k ∈ ks, k ∈ vs)
    (ht : ∀ B' ad F H s σ Q, Rl B' ad F H s σ → tt s Q → T σ H (PostT B' ad F σ Q)) (hT : ∀ σ H (Q Q' : Bool → Hp → Prop), T σ H Q → (∀ b H', Q b H' → Q' b H') → T σ H Q')
    (he : ∀ s H0 C cl fp B', EA (Blk X scope s H0 C cl fp) B' elt te) {ad : List Addr} {s : AS} {Q : Cell → AS → Prop} {K : VK} (r : Rl B ad F H s σ) (t : lcN ti g tt te vs s Q) (hK : ∀ v H', PostN B ad F σ Q v H' → K v H') :
    tLc (WI X tg iter) (gB X scope tg) T (eB X scope elt) vs σ H K := lc_coreB hg hk ht hT he (fun Q R t k => hi.run ad F H s σ Q R r t k) r t hK
theorem tYes_ok {B' : Bs} {ad : List Addr} {F H : Hp} {s : AS} {σ : St} {Q : Bool → AS → Prop} (r : Rl B' ad F H s σ) (t : yesA s Q) : tYes σ H (PostT B' ad F σ Q) := PostT.here r t
theorem en_lc (own : List (Str × Nat)) (o : LcOk X scope own iter) (hi : IO X B tg iter ti) (hg : ∀ s H0 C cl fp, GT (Blk X scope s H0 C cl fp) tg ks g) (he : ∀ s H0 C cl fp B', EA (Blk X scope s H0 C cl fp) B' elt te) (hk : ∀ k ∈ ks, k ∈ own.map (·.2) := by decide) :
    EN X B (.ListComp elt [⟨tg, iter, [], 0⟩] scope pos) (lcN ti g yesA te (own.map (·.2))) := ⟨fun ad F H s σ Q r t =>
  we_of (pe_lc (g := gB X scope tg) (tt := tYes) (te := eB X scope elt) o.calm o.nd pi_wi (blkOk_by o.ok) (fun s H0 C cl fp => ⟨fun pins s' σ H v u Q I r h => h s H0 C cl fp pins s' u I r⟩) (fun _ _ _ _ _ => pts_nil) (fun s H0 C cl fp => ⟨fun pins s' σ H Q I h => h s H0 C cl fp pins s' I⟩) o.fs)
    (lc_coreA hi hg hk (fun B' ad F H s σ Q r t => tYes_ok r t) (fun σ H Q Q' h k => k _ _ h) he r t fun _ _ h => h)⟩
theorem en_lcIf (own : List (Str × Nat)) (o : LcOk X scope own iter) (hi : IO X B tg iter ti) (hg : ∀ s H0 C cl fp, GT (Blk X scope s H0 C cl fp) tg ks g) (ht : ∀ s H0 C cl fp B', ET (Blk X scope s H0 C cl fp) B' c tt) (he : ∀ s H0 C cl fp B', EA (Blk X scope s H0 C cl fp) B' elt te) (hk : ∀ k ∈ ks, k ∈ own.map (·.2) := by decide) :
    EN X B (.ListComp elt [⟨tg, iter, [c], 0⟩] scope pos) (lcN ti g tt te (own.map (·.2))) := ⟨fun ad F H s σ Q r t =>
  we_of (pe_lc (g := gB X scope tg) (tt := tB' X scope c) (te := eB X scope elt) o.calm o.nd pi_wi (blkOk_by o.ok) (fun s H0 C cl fp => ⟨fun pins s' σ H v u Q I r h => h s H0 C cl fp pins s' u I r⟩) (fun s H0 C cl fp => pts_one ⟨fun pins s' σ H Q I h => h s H0 C cl fp pins s' I⟩) (fun s H0 C cl fp => ⟨fun pins s' σ H Q I h => h s H0 C cl fp pins s' I⟩) o.fs)
    (lc_coreA hi hg hk (fun B' ad F H s σ Q r t s0 H0 C cl fp => (ht s0 H0 C cl fp B').run ad F H s σ Q r t) (fun σ H Q Q' h k s0 H0 C cl fp => (h s0 H0 C cl fp).imp k) he r t fun _ _ h => h)⟩
theorem PostN.owned {ad : List Addr} {F : Hp} {Q : VQ} {v : V} {H2 : Hp} (q : PostN B ad F σ (fun c s1 => Q (.r s1.cs.length) ⟨s1.sl, s1.cs ++ [c]⟩) v H2) : Post B ad F σ Q v H2 := by
  obtain ⟨ad2, F2, c, a2, p, H1, o, h1, h2, r2, rfl, hp, rfl, ok, hl, q⟩ := q
  have r3 := r2.push (o := o) hp (ok.mono (ad2 := ad2 ++ [p]) ⟨[p], rfl⟩ (Same.refl _) (fun _ e => e) fun _ _ _ e => e) hl
  exact ⟨_, F2, .r a2.cs.length, _, h1.trans ⟨[p], rfl⟩, h2, r3, ⟨p, by rw [← r2.len]; simp, rfl⟩, q⟩
theorem PostN.frz {ad : List Addr} {F : Hp} {Q : VQ} {v : V} {H2 : Hp} (q : PostN B ad F σ (fun c s1 => onSome (frzC c) fun d => Q (.d d) s1) v H2) : Post B ad F σ Q v H2 := by
  obtain ⟨ad2, F2, c, a2, p, H1, o, h1, h2, r2, rfl, hp, rfl, ok, hl, d, hd, q⟩ := q
  obtain ⟨o', e1, e2⟩ := ok.frz hl (r2.fh.free hp) hd
  rw [upd_same] at e1
  cases e1
  exact (Post.newD r2 hp e2 q).up h1 h2
end
end Kr
/-! layer A5 -/
namespace Kr
open PySem L2
/-! ## what an abstract value is seen as -/
inductive View where
  | seq (xs : List AVal)
  | dct (kvs : List (Key × AVal))
  | txt (z : Str)
  | oth
def keyOf : PyData → Option Key
  | .int i => some (.inl i)
  | .str x => some (.inr x)
  | _ => none
def unKV : List (PyData × PyData) → Option (List (Key × PyData))
  | [] => some []
  | p :: r => (keyOf p.1).bind fun k => (unKV r).map fun r => (k, p.2) :: r
theorem unKV_no {k : List (PyData × PyData)} {l : List (Key × PyData)} (e : unKV k = some l) : noExK k = true := by
  cases k with
  | nil => rfl
  | cons p r =>
    obtain ⟨x, y⟩ := p
    cases x with
    | none => cases e
    | _ => rfl
def dkv (kvs : List (Key × PyData)) : List (Key × AVal) := kvs.map fun p => (p.1, .d p.2)
def viewD : PyData → View
  | .list ds => .seq (ds.map .d)
  | .tuple ds => .seq (ds.map .d)
  | .str z => .txt z
  | .dict kvs => match unKV kvs with
    | some l => .dct (dkv l)
    | none => .oth
  | _ => .oth
/-- the parts of a node -/
def valT (n : Nat) (pt : List Nat) : Tr → AVal
  | .d x => .d x
  | .nd _ a _ => .a a n pt
def kids (n : Nat) (pt : List Nat) (xs : List Tr) : List AVal := xs.mapIdx fun i t => valT n (i :: pt) t
def viewT (n : Nat) (pt : List Nat) (k : Kd) (xs : List Tr) : View := match k with
  | .lst => .seq (kids n pt xs)
  | .tup => .seq (kids n pt xs)
  | .dct ks => .dct (ks.zip (kids n pt xs))
  | .dctT _ => .oth
  | .obj _ _ _ => .oth
def viewC (n : Nat) : Cell → View
  | .tr (.nd k _ xs) => viewT n [] k xs
  | .lst ds => .seq (ds.map .d)
  | .nl xs => .seq xs
  | .nt xs => .seq xs
  | .dK kvs => .dct (dkv kvs)
  | .nd kvs => .dct kvs
  | .dl _ _ kvs => .dct (dkv kvs)
  | .fz x => viewD x
  | _ => .oth
def view (s : AS) : AVal → View
  | .d x => viewD x
  | .r n => match s.cs[n]? with
    | some c => viewC n c
    | none => .oth
  | .s _ _ => .oth
  | .a p n pt => match nodeAt s (.a p n pt) with
    | some (m, pt', k, _, xs) => viewT m pt' k xs
    | none => .oth
def AVal.key? : AVal → Option Key
  | .d x => keyOf x
  | _ => none
def getA {α : Type} (kvs : List (Key × α)) (k : Key) : Option α := (kvs.find? fun kv => decide (kv.1 = k)).map (·.2)
def putA {α : Type} (kvs : List (Key × α)) (k : Key) (v : α) : List (Key × α) :=
  if (kvs.any fun kv => decide (kv.1 = k)) = true then kvs.map (fun kv => if kv.1 = k then (kv.1, v) else kv) else kvs ++ [(k, v)]
theorem keyOf_keyD (k : Key) : keyOf (keyD k) = some k := by cases k <;> rfl
theorem unKV_keyD : ∀ kvs : List (Key × PyData), unKV (kvs.map fun p => (keyD p.1, p.2)) = some kvs
  | [] => rfl
  | p :: r => by
    show (keyOf (keyD p.1)).bind _ = _
    rw [keyOf_keyD, unKV_keyD r]; rfl
theorem view_dictD {s : AS} {kvs : List (Key × PyData)} : view s (.d (dictD kvs)) = .dct (dkv kvs) := by
  show (match unKV (kvs.map fun p => (keyD p.1, p.2)) with | some l => View.dct (dkv l) | none => .oth) = _
  rw [unKV_keyD]
section
variable {B : Bs} {ad : List Addr} {F H : Hp} {s : AS} {σ : St} {x y : AVal} {v : V}
theorem keyOf_da {d : PyData} {k : Key} (h : keyOf d = some k) (hd : Da F d v) : v = kV k := by
  cases d <;> simp only [keyOf] at h <;> cases h <;> exact hd
theorem AVal.key?_ok {k : Key} (h : x.key? = some k) (hv : VOk ad F x v) : v = kV k := by
  cases x with
  | d x => exact keyOf_da h hv
  | r n => cases h
  | s _ _ => cases h
  | a _ _ _ => cases h
theorem valT_ok {n : Nat} {pt : List Nat} {t : Tr} (h : TrOk F H t v) : VOk ad F (valT n pt t) v := by
  cases t with
  | d x => exact h
  | nd k a xs => exact h.node.1
theorem kids_ok {n : Nat} {pt : List Nat} {xs : List Tr} {vs : List V} (h : TrAll F H xs vs) : Paired (VOk ad F) (kids n pt xs) vs := by
  have key : ∀ (g : Nat → List Nat) (xs : List Tr) (vs : List V), TrAll F H xs vs → Paired (VOk ad F) (xs.mapIdx fun i t => valT n (g i) t) vs := by
    intro g xs
    induction xs generalizing g with
    | nil => intro vs h; obtain rfl := (show vs = [] from h); exact .nil
    | cons t ts ih =>
      intro vs h
      obtain ⟨v, r, rfl, h1, h2⟩ := (show ∃ v r, vs = v :: r ∧ TrOk F H t v ∧ TrAll F H ts r from h)
      rw [List.mapIdx_cons]
      exact .cons (valT_ok h1) (ih (fun i => g (i + 1)) r h2)
  exact key _ xs vs h
theorem kids_len {n : Nat} {pt : List Nat} {xs : List Tr} : (kids n pt xs).length = xs.length := by unfold kids; simp
theorem zip_ok {ks : List Key} {xs : List AVal} {vs : List V} (h : Paired (VOk ad F) xs vs) : KrOk ad F (ks.zip xs) (ks.zip vs) := by
  induction h generalizing ks with
  | nil => simp; exact .nil
  | cons h t ih =>
    cases ks with
    | nil => exact .nil
    | cons k ks => exact .cons ⟨rfl, h⟩ ih
theorem viewT_seq {n : Nat} {pt : List Nat} {k : Kd} {q : Addr} {xs : List Tr} {vs : List V} {ys : List AVal} (e : viewT n pt k xs = .seq ys) (h1 : H q = some (k.ho vs)) (h2 : TrAll F H xs vs) : (H q = some (.lst vs) ∨ H q = some (.tup vs)) ∧ Paired (VOk ad F) ys vs := by
  cases k with
  | lst => cases e; exact ⟨.inl h1, kids_ok h2⟩
  | tup => cases e; exact ⟨.inr h1, kids_ok h2⟩
  | dct ks => cases e
  | dctT ks => cases e
  | obj _ _ _ => cases e
theorem viewT_dct {n : Nat} {pt : List Nat} {k : Kd} {q : Addr} {xs : List Tr} {vs : List V} {kvs : List (Key × AVal)} (e : viewT n pt k xs = .dct kvs) (h1 : H q = some (k.ho vs)) (h2 : TrAll F H xs vs) : ∃ es, Rd H q (.dK es) ∧ KrOk ad F kvs es := by
  cases k with
  | lst => cases e
  | tup => cases e
  | dct ks => cases e; exact ⟨_, .inl h1, zip_ok (kids_ok h2)⟩
  | dctT ks => cases e
  | obj _ _ _ => cases e
theorem viewT_txt {n : Nat} {pt : List Nat} {k : Kd} {xs : List Tr} {z : Str} (e : viewT n pt k xs = .txt z) : False := by
  cases k <;> cases e
theorem krOk_dkv {kvs : List (Key × PyData)} {es : List (Key × V)} (h : KvOk F kvs es) : KrOk ad F (dkv kvs) es := by
  unfold dkv KrOk
  unfold KvOk at h
  induction h with
  | nil => exact .nil
  | cons h t ih => exact .cons h ih
theorem kvOk_of : ∀ {kvs : List (PyData × PyData)} {l : List (Key × PyData)} {es : List (Key × V)}, unKV kvs = some l → DaKV F kvs es → KvOk F l es
  | [], l, es, h, hd => by cases h; obtain rfl := (show es = [] from hd); exact .nil
  | (k, d) :: r, l, es, h, hd => by
    obtain ⟨k', v, r', rfl, h0, h1, h2⟩ := (show ∃ k' v r', es = (k', v) :: r' ∧ KeyD k k' ∧ Da F d v ∧ DaKV F r r' from hd)
    have h' : (keyOf k).bind (fun k => (unKV r).map fun r => (k, d) :: r) = some l := h
    cases hk : keyOf k with
    | none => rw [hk] at h'; cases h'
    | some k2 =>
      rw [hk] at h'
      cases hr : unKV r with
      | none => rw [hr] at h'; cases h'
      | some r2 =>
        rw [hr] at h'
        cases h'
        refine .cons ⟨?_, h1⟩ (kvOk_of hr h2)
        cases k <;> simp only [keyOf] at hk <;> cases hk <;> cases k' <;> simp only [KeyD] at h0
        · rw [h0]
        · rw [h0]
theorem viewD_seq {d : PyData} {xs : List AVal} (e : viewD d = .seq xs) (h : Da F d v) : ∃ l vs, v = .ref l ∧ (F l = some (.lst vs) ∨ F l = some (.tup vs)) ∧ Paired (VOk ad F) xs vs := by
  cases d with
  | list ds => cases e; obtain ⟨a, vs, rfl, h1, h2⟩ := h; exact ⟨a, vs, rfl, .inl h1, pairedD h2⟩
  | tuple ds => cases e; obtain ⟨a, vs, rfl, h1, h2⟩ := h; exact ⟨a, vs, rfl, .inr h1, pairedD h2⟩
  | dict kvs =>
    simp only [viewD] at e
    split at e <;> cases e
  | _ => cases e
theorem viewD_dct {d : PyData} {kvs : List (Key × AVal)} (e : viewD d = .dct kvs) (h : Da F d v) : ∃ l es, v = .ref l ∧ Rd F l (.dK es) ∧ KrOk ad F kvs es := by
  cases d with
  | dict k =>
    simp only [viewD] at e
    split at e
    · rename_i l hl
      cases e
      obtain ⟨a, es, rfl, h1, h2⟩ := Da.dict h (unKV_no hl)
      exact ⟨a, es, rfl, h1, krOk_dkv (kvOk_of hl h2)⟩
    · cases e
  | _ => cases e
theorem viewD_txt {d : PyData} {z : Str} (e : viewD d = .txt z) (h : Da F d v) : v = .str z := by
  cases d with
  | str k => cases e; exact h
  | dict kvs =>
    simp only [viewD] at e
    split at e <;> cases e
  | _ => cases e
theorem VOk.seq {xs : List AVal} (r : Rl B ad F H s σ) (h : VOk ad F x v) (e : view s x = .seq xs) : ∃ l vs, v = .ref l ∧ (H l = some (.lst vs) ∨ H l = some (.tup vs)) ∧ Paired (VOk ad F) xs vs := by
  cases x with
  | s _ _ => cases e
  | d x =>
    obtain ⟨l, vs, h1, h2, h3⟩ := viewD_seq (ad := ad) e h
    exact ⟨l, vs, h1, h2.elim (fun z => .inl (r.fh _ _ z)) (fun z => .inr (r.fh _ _ z)), h3⟩
  | r n =>
    obtain ⟨a, h1, rfl⟩ := h
    simp only [view] at e
    split at e
    · rename_i c hc
      obtain ⟨_, _, ok⟩ := r.cel n a c h1 hc
      cases c with
      | lst ds => cases e; obtain ⟨vs, h2, h3⟩ := ok; exact ⟨a, vs, rfl, .inl h2, pairedD h3⟩
      | nl xs => cases e; obtain ⟨vs, h2, h3⟩ := ok; exact ⟨a, vs, rfl, .inl h2, h3⟩
      | nt xs => cases e; obtain ⟨vs, h2, h3⟩ := ok; exact ⟨a, vs, rfl, .inr h2, h3⟩
      | fz y =>
        obtain ⟨l, vs, h1, h2, h3⟩ := viewD_seq (ad := ad) (F := F) e ok
        exact ⟨l, vs, h1, h2.elim (fun z => .inl (r.fh _ _ z)) (fun z => .inr (r.fh _ _ z)), h3⟩
      | tr t => cases t with
        | d _ => cases e
        | nd k q ys =>
          obtain ⟨h2, h3⟩ := ok
          cases h2
          obtain ⟨_, vs, h4, _, h5⟩ := h3.node
          obtain ⟨h6, h7⟩ := viewT_seq (ad := ad) e h4 h5
          exact ⟨_, vs, rfl, h6, h7⟩
      | _ => cases e
    · cases e
  | a p n pt =>
    simp only [view] at e
    split at e
    · rename_i m pt' k q ys hn
      obtain ⟨t, p', vs, N⟩ := nodeAt_ok r h hn
      obtain ⟨h6, h7⟩ := viewT_seq (ad := ad) e N.ho N.kids
      exact ⟨q, vs, N.val, h6, h7⟩
    · cases e
theorem Rd.up {F H : Hp} {a : Addr} {u : HO} (s : Same F H) (h : Rd F a u) : Rd H a u := h.elim (fun z => .inl (s _ _ z)) fun ⟨o, z⟩ => .inr ⟨o, s _ _ z⟩
theorem VOk.dct {kvs : List (Key × AVal)} (r : Rl B ad F H s σ) (h : VOk ad F x v) (e : view s x = .dct kvs) : ∃ l es, v = .ref l ∧ Rd H l (.dK es) ∧ KrOk ad F kvs es := by
  cases x with
  | s _ _ => cases e
  | d x =>
    obtain ⟨l, vs, h1, h2, h3⟩ := viewD_dct (ad := ad) e h
    exact ⟨l, vs, h1, Rd.up r.fh h2, h3⟩
  | r n =>
    obtain ⟨a, h1, rfl⟩ := h
    simp only [view] at e
    split at e
    · rename_i c hc
      obtain ⟨_, _, ok⟩ := r.cel n a c h1 hc
      cases c with
      | dK ds => cases e; obtain ⟨vs, h2, h3⟩ := ok; exact ⟨a, vs, rfl, .inl h2, krOk_dkv h3⟩
      | dl od es ds => cases e; obtain ⟨h2, h3⟩ := ok; exact ⟨a, es, rfl, .inr ⟨od, h2⟩, krOk_dkv h3⟩
      | nd xs => cases e; obtain ⟨vs, h2, h3⟩ := ok; exact ⟨a, vs, rfl, .inl h2, h3⟩
      | fz y =>
        obtain ⟨l, vs, h1, h2, h3⟩ := viewD_dct (ad := ad) (F := F) e ok
        exact ⟨l, vs, h1, Rd.up r.fh h2, h3⟩
      | tr t => cases t with
        | d _ => cases e
        | nd k q ys =>
          obtain ⟨h2, h3⟩ := ok
          cases h2
          obtain ⟨_, vs, h4, _, h5⟩ := h3.node
          obtain ⟨es, h6, h7⟩ := viewT_dct (ad := ad) e h4 h5
          exact ⟨_, es, rfl, h6, h7⟩
      | _ => cases e
    · cases e
  | a p n pt =>
    simp only [view] at e
    split at e
    · rename_i m pt' k q ys hn
      obtain ⟨t, p', vs, N⟩ := nodeAt_ok r h hn
      obtain ⟨es, h6, h7⟩ := viewT_dct (ad := ad) e N.ho N.kids
      exact ⟨q, es, N.val, h6, h7⟩
    · cases e
theorem VOk.txt {z : Str} (r : Rl B ad F H s σ) (h : VOk ad F x v) (e : view s x = .txt z) : v = .str z := by
  cases x with
  | s _ _ => cases e
  | d x => exact viewD_txt e h
  | r n =>
    obtain ⟨a, h1, rfl⟩ := h
    simp only [view] at e
    split at e
    · rename_i c hc
      obtain ⟨_, _, ok⟩ := r.cel n a c h1 hc
      cases c with
      | fz y => exact viewD_txt (F := F) e ok
      | tr t => cases t with
        | d _ => cases e
        | nd k q ys => exact (viewT_txt e).elim
      | _ => cases e
    · cases e
  | a p n pt =>
    simp only [view] at e
    split at e
    · exact (viewT_txt e).elim
    · cases e
theorem Paired.get {α β : Type} {R : α → β → Prop} : ∀ {xs : List α} {ys : List β} {i : Nat} {x : α}, Paired R xs ys → xs[i]? = some x → ∃ y, ys[i]? = some y ∧ R x y
  | _, _, _, _, .nil, e => by simp at e
  | _, _, 0, _, .cons h _, e => by simp at e; subst e; exact ⟨_, rfl, h⟩
  | _, _, i + 1, x, .cons _ t, e => by
    obtain ⟨y, h1, h2⟩ := Paired.get (i := i) t (by simpa using e)
    exact ⟨y, by simpa using h1, h2⟩
theorem Paired.atI {α β : Type} {R : α → β → Prop} {xs : List α} {ys : List β} {i : Int} {x : α} (h : Paired R xs ys) (e : L2.atI xs i = some x) : ∃ y, L2.atI ys i = some y ∧ R x y := by
  unfold L2.atI at e ⊢
  rw [← Paired.len h]
  cases hj : ixN xs.length i with
  | none => rw [hj] at e; simp at e
  | some j =>
    rw [hj] at e
    exact Paired.get h (by simpa using e)
theorem KrOk.get {kvs : List (Key × AVal)} {es : List (Key × V)} {k : Key} (h : KrOk ad F kvs es) : match getA kvs k with | some x => ∃ v, valV es k = some v ∧ VOk ad F x v | none => valV es k = none := by
  unfold KrOk at h
  induction h with
  | nil => rfl
  | @cons p q ps qs h t ih =>
    by_cases hk : p.1 = k
    · have : getA (p :: ps) k = some p.2 := by simp [getA, List.find?_cons, hk]
      rw [this]
      exact ⟨q.2, valV_pos (h.1.symm.trans hk), h.2⟩
    · have e1 : getA (p :: ps) k = getA ps k := by simp [getA, List.find?_cons, hk]
      have e2 : valV (q :: qs) k = valV qs k := valV_neg (by rw [← h.1]; exact hk)
      rw [e1, e2]
      exact ih
theorem any_keys {α β : Type} {R : α → β → Prop} {kvs : List (Key × α)} {es : List (Key × β)} {k : Key} (h : Paired (fun p q => p.1 = q.1 ∧ R p.2 q.2) kvs es) : (kvs.any fun kv => decide (kv.1 = k)) = (es.any fun kv => decide (kv.1 = k)) := by
  induction h with
  | nil => rfl
  | cons h t ih => simp only [List.any_cons, ih, h.1]
theorem put_pair {α : Type} {R : α → V → Prop} {kvs : List (Key × α)} {es : List (Key × V)} {k : Key} {x : α} {v : V} (h : Paired (fun p q => p.1 = q.1 ∧ R p.2 q.2) kvs es) (hx : R x v) : Paired (fun p q => p.1 = q.1 ∧ R p.2 q.2) (putA kvs k x) (putK es k v) := by
  unfold putA putK
  rw [any_keys h]
  split
  · rename_i hany
    clear hany
    induction h with
    | nil => exact .nil
    | @cons p q ps qs h t ih =>
      refine .cons ?_ ih
      dsimp only
      rw [← h.1]
      by_cases hk : p.1 = k
      · rw [if_pos hk, if_pos hk]; exact ⟨rfl, hx⟩
      · rw [if_neg hk, if_neg hk]; exact h
  · exact Paired.snoc h ⟨rfl, hx⟩
end
/-! ## operators -/
section
variable {X : Cx} {B : Bs}
def intOp (C : Int → Int → Prop) (g : Int → Int → Int) : AVal → AVal → TEA := fun x y s Q => onSome x.int? fun i => onSome y.int? fun j => C i j ∧ Q (.d (.int (g i j))) s
theorem opa_I {f : Value → Value → Sem Value} {C : Int → Int → Prop} {g : Int → Int → Int} (ho : OpR X f (rI C fun i j => .int (g i j))) : OpA X B f (intOp C g) := fun ad F H s σ x y u v Q r hx hy ⟨i, ei, j, ej, hc, q⟩ => by
  have e1 := AVal.int?_of ei
  have e2 := AVal.int?_of ej
  subst e1; subst e2
  exact ⟨_, ho, i, j, hx, hy, hc, .here (x := .d (.int (g i j))) r rfl q⟩
def intOp0 (g : Int → Int → Int) : AVal → AVal → TEA := fun x y s Q => onSome x.int? fun i => onSome y.int? fun j => Q (.d (.int (g i j))) s
def subA : AVal → AVal → TEA := intOp0 fun i j => i - j
def fdivA : AVal → AVal → TEA := intOp CDiv fun i j => i / j
def modA : AVal → AVal → TEA := intOp (fun _ j => 0 < j) fun i j => i % j
def powA : AVal → AVal → TEA := intOp CPow fun i j => i ^ j.toNat
theorem o_fdiv : OpA X B (binaryOp .FloorDiv) fdivA := opa_I op_fdiv
theorem o_mod : OpA X B (binaryOp .Mod) modA := opa_I op_mod
theorem o_pow : OpA X B (binaryOp .Pow) powA := opa_I op_pow
/-- + of ints, texts, lists (told for good) -/
def addA : AVal → AVal → TEA := fun x y s Q => match x with
  | .d (.int i) => onSome y.int? fun j => Q (.d (.int (i + j))) s
  | .d (.str p) => onSome y.str? fun q => p.length + q.length ≤ sizeLine ∧ Q (.d (.str (p ++ q))) s
  | x => onSome (listOf s x) fun ds => onSome (listOf s y) fun es => ds.length + es.length ≤ sizeLine ∧ Q (.d (.list (ds ++ es))) s
theorem o_add : OpA X B (binaryOp .Add) addA := fun ad F H s σ x y u v Q r hx hy t => by
  have lists : ∀ {x : AVal} {u : V}, VOk ad F x u → (onSome (listOf s x) fun ds => onSome (listOf s y) fun es => ds.length + es.length ≤ sizeLine ∧ Q (.d (.list (ds ++ es))) s) → ∃ r, OpR X (binaryOp .Add) r ∧ r u v H (Post B ad F σ Q) := by
    rintro x u hx ⟨ds, e1, es, e2, hz, q⟩
    obtain ⟨l, vs, rfl, h1, h2⟩ := hx.list r e1
    obtain ⟨m, us, rfl, h3, h4⟩ := hy.list r e2
    exact ⟨_, op_cat, l, m, vs, us, rfl, rfl, h1, h3, by rw [h2.length, h4.length]; exact hz, fun p hp => .newD (d := .list (ds ++ es)) r hp ⟨p, _, rfl, upd_same, (h2.append h4).mono (same_upd (r.fh.free hp))⟩ q⟩
  unfold addA at t
  split at t
  · rename_i i
    obtain ⟨j, e, q⟩ := t
    have := AVal.int?_of e
    subst this
    exact ⟨_, op_add, i, j, hx, hy, .here (x := .d (.int (i + j))) r rfl q⟩
  · rename_i p
    obtain ⟨j, e, hz, q⟩ := t
    have := AVal.str?_of e
    subst this
    exact ⟨_, op_add_str, p, j, hx, hy, hz, .here (x := .d (.str (p ++ j))) r rfl q⟩
  · exact lists hx t
/-- + of lists, a new cell -/
def catN : AVal → AVal → TNA := fun x y s Q => onSome (listOf s x) fun ds => onSome (listOf s y) fun es => ds.length + es.length ≤ sizeLine ∧ Q (.lst (ds ++ es)) s
theorem o_cat : OpN X B (binaryOp .Add) catN := fun ad F H s σ x y u v Q r hx hy ⟨ds, e1, es, e2, hz, q⟩ => by
  obtain ⟨l, vs, rfl, h1, h2⟩ := hx.list r e1
  obtain ⟨m, us, rfl, h3, h4⟩ := hy.list r e2
  exact ⟨_, op_cat, l, m, vs, us, rfl, rfl, h1, h3, by rw [h2.length, h4.length]; exact hz, fun p hp => .here (c := .lst (ds ++ es)) r hp ⟨_, upd_same, h2.append h4⟩ rfl q⟩
/-- * of ints, of a list and an int -/
def repL (n : Int) (ds : List PyData) : List PyData := (List.replicate n.toNat ds).flatten
def mulA : AVal → AVal → TEA := fun x y s Q => match x with
  | .d (.int i) => onSome y.int? fun j => CMul i j ∧ Q (.d (.int (i * j))) s
  | x => onSome (listOf s x) fun ds => onSome y.int? fun n => (-(2 ^ 63) ≤ n ∧ n < 2 ^ 63 ∧ ds.length * n.toNat ≤ sizeLine) ∧ Q (.d (.list (repL n ds))) s
theorem o_mul : OpA X B (binaryOp .Mult) mulA := fun ad F H s σ x y u v Q r hx hy t => by
  have lists : ∀ {x : AVal} {u : V}, VOk ad F x u → (onSome (listOf s x) fun ds => onSome y.int? fun n => (-(2 ^ 63) ≤ n ∧ n < 2 ^ 63 ∧ ds.length * n.toNat ≤ sizeLine) ∧ Q (.d (.list (repL n ds))) s) → ∃ r, OpR X (binaryOp .Mult) r ∧ r u v H (Post B ad F σ Q) := by
    rintro x u hx ⟨ds, e1, n, e2, ⟨h1, h2, hz⟩, q⟩
    have := AVal.int?_of e2
    subst this
    obtain ⟨l, vs, rfl, h3, h4⟩ := hx.list r e1
    exact ⟨_, op_rep, l, n, vs, rfl, hy, h3, h1, h2, by rw [h4.length]; exact hz, fun p hp => .newD (d := .list (repL n ds)) r hp ⟨p, _, rfl, upd_same, (daAll_rep h4 _).mono (same_upd (r.fh.free hp))⟩ q⟩
  unfold mulA at t
  split at t
  · rename_i i
    obtain ⟨j, e, hc, q⟩ := t
    have := AVal.int?_of e
    subst this
    exact ⟨_, op_mul, i, j, hx, hy, hc, .here (x := .d (.int (i * j))) r rfl q⟩
  · exact lists hx t
def repN : AVal → AVal → TNA := fun x y s Q => onSome (listOf s x) fun ds => onSome y.int? fun n => (-(2 ^ 63) ≤ n ∧ n < 2 ^ 63 ∧ ds.length * n.toNat ≤ sizeLine) ∧ Q (.lst (repL n ds)) s
theorem o_rep : OpN X B (binaryOp .Mult) repN := fun ad F H s σ x y u v Q r hx hy ⟨ds, e1, n, e2, ⟨h1, h2, hz⟩, q⟩ => by
  have := AVal.int?_of e2
  subst this
  obtain ⟨l, vs, rfl, h3, h4⟩ := hx.list r e1
  exact ⟨_, op_rep, l, n, vs, rfl, hy, h3, h1, h2, by rw [h4.length]; exact hz, fun p hp => .here (c := .lst (repL n ds)) r hp ⟨_, upd_same, daAll_rep h4 _⟩ rfl q⟩
/-! ### comparisons -/
def intT (g : Int → Int → Bool) : AVal → AVal → TTA := fun x y s Q => onSome x.int? fun i => onSome y.int? fun j => Q (g i j) s
theorem opt_I {f : Value → Value → Sem Value} {g : Int → Int → Bool} (ho : OpR X f (rI0 fun i j => .bl (g i j))) : OpT X B f (intT g) := fun ad F H s σ x y u v Q r hx hy ⟨i, ei, j, ej, q⟩ => by
  have e1 := AVal.int?_of ei
  have e2 := AVal.int?_of ej
  subst e1; subst e2
  exact ⟨_, _, q, ho, fun K k => ⟨i, j, hx, hy, k⟩⟩
def leT : AVal → AVal → TTA := intT fun i j => decide (i ≤ j)
def gtT : AVal → AVal → TTA := intT fun i j => decide (j < i)
def geT : AVal → AVal → TTA := intT fun i j => decide (j ≤ i)
theorem o_le : OpT X B (compareOp .LtE) leT := opt_I op_le
theorem o_gt : OpT X B (compareOp .Gt) gtT := opt_I op_gt
theorem o_ge : OpT X B (compareOp .GtE) geT := opt_I op_ge
def ltT : AVal → AVal → TTA := fun x y s Q => match x with
  | .d (.str p) => onSome y.str? fun q => Q (decide (p.cps.toList < q.cps.toList)) s
  | x => onSome x.int? fun i => onSome y.int? fun j => Q (decide (i < j)) s
theorem o_lt : OpT X B (compareOp .Lt) ltT := fun ad F H s σ x y u v Q r hx hy t => by
  unfold ltT at t
  split at t
  · obtain ⟨j, e, q⟩ := t
    have := AVal.str?_of e
    subst this
    exact ⟨_, _, q, op_lt_str, fun K k => ⟨_, j, hx, hy, k⟩⟩
  · obtain ⟨i, ei, j, ej, q⟩ := t
    have e1 := AVal.int?_of ei
    have e2 := AVal.int?_of ej
    subst e1; subst e2
    exact ⟨_, _, q, op_lt, fun K k => ⟨i, j, hx, hy, k⟩⟩
def eqOk : PyData → PyData → Prop
  | .int _, .int _ => True
  | .str _, .str _ => True
  | .bool _, .bool _ => True
  | d, e => SeqAt.shaped d = true ∧ SeqAt.shaped e = true
theorem lay_list0 {ds : List PyData} (h : (PyData.list ds).canLay0 = true) : PyData.canLayAll0 ds = true := by simpa [PyData.canLay0] using h
theorem lay_tup0 {ds : List PyData} (h : (PyData.tuple ds).canLay0 = true) : PyData.canLayAll0 ds = true := by simpa [PyData.canLay0] using h
mutual
theorem TrOk.dp {K : PySem.W.Frag} {F H : Hp} (s : Same F H) : ∀ {t : Tr} {v : V} {d : PyData}, TrOk F H t v → t.data? = some d → d.canLay0 = true → Dp K H v d
  | .d x, v, d, h, e, c => by cases e; exact (Da.mono s h).dp c
  | .nd k a xs, v, d, h, e, c => by
    obtain ⟨h0, vs, h1, _, h3⟩ := h.node
    subst h0
    cases k with
    | lst =>
      have e' : (Tr.datas? xs).map PyData.list = some d := e
      cases hd : Tr.datas? xs with
      | none => rw [hd] at e'; cases e'
      | some ds => rw [hd] at e'; cases e'; exact .lst (SqL.of h1) (TrAll.dp s h3 hd (lay_list0 c))
    | tup =>
      have e' : (Tr.datas? xs).map PyData.tuple = some d := e
      cases hd : Tr.datas? xs with
      | none => rw [hd] at e'; cases e'
      | some ds => rw [hd] at e'; cases e'; exact .tup (SqT.of h1) (TrAll.dp s h3 hd (lay_tup0 c))
    | dct ks =>
      have e' : (Tr.datas? xs).map (fun ds => dictD (ks.zip ds)) = some d := e
      cases hd : Tr.datas? xs with
      | none => rw [hd] at e'; cases e'
      | some ds => rw [hd] at e'; cases e'; simp [dictD, PyData.canLay0] at c
    | dctT _ => cases e
    | obj _ _ _ => cases e
theorem TrAll.dp {K : PySem.W.Frag} {F H : Hp} (s : Same F H) : ∀ {ts : List Tr} {vs : List V} {ds : List PyData}, TrAll F H ts vs → Tr.datas? ts = some ds → PyData.canLayAll0 ds = true → DpAll K H vs ds
  | [], vs, ds, h, e, _ => by cases e; obtain rfl := (show vs = [] from h); exact .nil
  | t :: ts, vs, ds, h, e, c => by
    obtain ⟨v, r, rfl, h1, h2⟩ := (show ∃ v r, vs = v :: r ∧ TrOk F H t v ∧ TrAll F H ts r from h)
    unfold Tr.datas? at e
    split at e
    · rename_i y ys h3 h4
      cases e
      have c' : y.canLay0 = true ∧ PyData.canLayAll0 ys = true := by simpa [PyData.canLayAll0] using c
      exact .cons (TrOk.dp s h1 h3 c'.1) (TrAll.dp s h2 h4 c'.2)
    · cases e
end
theorem data_node {k : Kd} {q : Addr} {xs : List Tr} {d : PyData} (e : Tr.data? (.nd k q xs) = some d) : (∃ ds, d = .list ds) ∨ (∃ ds, d = .tuple ds) ∨ ∃ kvs, d = .dict kvs := by
  cases k with
  | lst =>
    have e' : (Tr.datas? xs).map PyData.list = some d := e
    cases hd : Tr.datas? xs with
    | none => rw [hd] at e'; cases e'
    | some ds => rw [hd] at e'; cases e'; exact .inl ⟨_, rfl⟩
  | tup =>
    have e' : (Tr.datas? xs).map PyData.tuple = some d := e
    cases hd : Tr.datas? xs with
    | none => rw [hd] at e'; cases e'
    | some ds => rw [hd] at e'; cases e'; exact .inr (.inl ⟨_, rfl⟩)
  | dct ks =>
    have e' : (Tr.datas? xs).map (fun ds => dictD (ks.zip ds)) = some d := e
    cases hd : Tr.datas? xs with
    | none => rw [hd] at e'; cases e'
    | some ds => rw [hd] at e'; cases e'; exact .inr (.inr ⟨_, rfl⟩)
  | dctT _ => cases e
  | obj _ _ _ => cases e
theorem VOk.dp {ad : List Addr} {F H : Hp} {s : AS} {σ : St} {x : AVal} {v : V} {d : PyData} (r : Rl B ad F H s σ) (h : VOk ad F x v) (e : dataOf s x = some d) (hc : d.canLay0 = true) : Dp X.K H v d := by
  cases x with
  | s _ _ => cases e
  | d x => cases e; exact (Da.mono r.fh h).dp hc
  | r n =>
    obtain ⟨a, h1, rfl⟩ := h
    cases hq : s.cs[n]? with
    | none => simp [dataOf, hq] at e
    | some c =>
      have e' : cellD c = some d := by simpa [dataOf, hq] using e
      obtain ⟨n0, l, ok⟩ := r.cel n a c h1 hq
      cases c with
      | tr t => exact ok.2.dp r.fh e' hc
      | lst ds =>
        cases e'
        obtain ⟨vs, h2, h3⟩ := ok
        exact Da.dp (H := H) (d := .list ds) ⟨a, vs, rfl, h2, h3.mono r.fh⟩ hc
      | dK kvs => cases e'; simp [dictD, PyData.canLay0] at hc
      | fz y => cases e'; exact (Da.mono r.fh ok).dp hc
      | _ => cases e'
  | a p n pt =>
    simp only [dataOf] at e
    split at e
    · rename_i m pt' k q ys hn
      obtain ⟨t, p', vs, N⟩ := nodeAt_ok r h hn
      have := N.val
      subst this
      exact TrOk.dp r.fh (TrOk.of N.ho N.side N.kids) e hc
    · cases e
theorem eqv_sc {ad : List Addr} {F : Hp} {d e : PyData} {u v : V} (h1 : Da F d u) (h2 : Da F e v) (hs : (∃ i j, d = .int i ∧ e = .int j) ∨ (∃ i j, d = .str i ∧ e = .str j) ∨ ∃ i j, d = .bool i ∧ e = .bool j) : scal u v = true ∧ decide (u = v) = PyData.eqv d e := by
  rcases hs with ⟨i, j, rfl, rfl⟩ | ⟨i, j, rfl, rfl⟩ | ⟨i, j, rfl, rfl⟩
  · obtain rfl : u = .int i := h1
    obtain rfl : v = .int j := h2
    exact ⟨rfl, by simp [PyData.eqv, Bool.beq_eq_decide_eq, eq_comm]⟩
  · obtain rfl : u = .str i := h1
    obtain rfl : v = .str j := h2
    exact ⟨rfl, by simp [PyData.eqv, Bool.beq_eq_decide_eq, eq_comm]⟩
  · obtain rfl : u = .bl i := h1
    obtain rfl : v = .bl j := h2
    exact ⟨rfl, by simp [PyData.eqv, Bool.beq_eq_decide_eq, eq_comm]⟩
def eqT (neg : Bool) : AVal → AVal → TTA := fun x y s Q => onSome (dataOf s x) fun d => onSome (dataOf s y) fun e => eqOk d e ∧ Q (PyData.eqv d e != neg) s
theorem data_sc {ad : List Addr} {F H : Hp} {s : AS} {σ : St} {x : AVal} {v : V} {d : PyData} (r : Rl B ad F H s σ) (h : VOk ad F x v) (e : dataOf s x = some d) (hs : (∃ i, d = .int i) ∨ (∃ i, d = .str i) ∨ ∃ i, d = .bool i) : Da F d v := by
  cases x with
  | s _ _ => cases e
  | d x => cases e; exact h
  | r n =>
    obtain ⟨a, h1, rfl⟩ := h
    cases hq : s.cs[n]? with
    | none => simp [dataOf, hq] at e
    | some c =>
      have e' : cellD c = some d := by simpa [dataOf, hq] using e
      obtain ⟨n0, l, ok⟩ := r.cel n a c h1 hq
      cases c with
      | tr t => cases t with
        | d x => cases e'; exact ok.2
        | nd k q ys => rcases data_node (q := q) e' with ⟨_, rfl⟩ | ⟨_, rfl⟩ | ⟨_, rfl⟩ <;> simp at hs
      | fz y => cases e'; exact ok
      | lst ds => cases e'; rcases hs with ⟨i, z⟩ | ⟨i, z⟩ | ⟨i, z⟩ <;> cases z
      | dK ds => cases e'; rcases hs with ⟨i, z⟩ | ⟨i, z⟩ | ⟨i, z⟩ <;> cases z
      | _ => cases e'
  | a p n pt =>
    simp only [dataOf] at e
    split at e
    · rename_i m pt' k q ys hn
      rcases data_node e with ⟨_, rfl⟩ | ⟨_, rfl⟩ | ⟨_, rfl⟩ <;> simp at hs
    · cases e
theorem o_eq (hu : X.A.units + 64 < cLine) : OpT X B (compareOp .Eq) (eqT false) := fun ad F H s σ x y u v Q r hx hy ⟨d, e1, e, e2, ho, q⟩ => by
  rw [show (PyData.eqv d e != false) = PyData.eqv d e by simp] at q
  have sc : ((∃ i j, d = .int i ∧ e = .int j) ∨ (∃ i j, d = .str i ∧ e = .str j) ∨ ∃ i j, d = .bool i ∧ e = .bool j) → ∃ b r, Q b s ∧ OpR X (compareOp .Eq) r ∧ ∀ K : VK, K (.bl b) H → r u v H K := fun hs => by
    have h1 : Da F d u := data_sc r hx e1 (by rcases hs with ⟨i, j, rfl, rfl⟩ | ⟨i, j, rfl, rfl⟩ | ⟨i, j, rfl, rfl⟩ <;> simp)
    have h2 : Da F e v := data_sc r hy e2 (by rcases hs with ⟨i, j, rfl, rfl⟩ | ⟨i, j, rfl, rfl⟩ | ⟨i, j, rfl, rfl⟩ <;> simp)
    obtain ⟨h3, h4⟩ := eqv_sc (ad := ad) h1 h2 hs
    exact ⟨_, _, q, op_eq, fun K k => ⟨h3, by rw [h4]; exact k⟩⟩
  have dp : SeqAt.shaped d = true ∧ SeqAt.shaped e = true → ∃ b r, Q b s ∧ OpR X (compareOp .Eq) r ∧ ∀ K : VK, K (.bl b) H → r u v H K := fun ⟨s1, s2⟩ =>
    ⟨_, _, q, op_eqD hu, fun K k => ⟨d, e, hx.dp r e1 (SeqAt.canLay_of_shaped s1), hy.dp r e2 (SeqAt.canLay_of_shaped s2), s1, s2, k⟩⟩
  unfold eqOk at ho
  split at ho
  · exact sc (.inl ⟨_, _, rfl, rfl⟩)
  · exact sc (.inr (.inl ⟨_, _, rfl, rfl⟩))
  · exact sc (.inr (.inr ⟨_, _, rfl, rfl⟩))
  · exact dp ho
theorem o_ne (hu : X.A.units + 64 < cLine) : OpT X B (compareOp .NotEq) (eqT true) := fun ad F H s σ x y u v Q r hx hy ⟨d, e1, e, e2, ho, q⟩ => by
  rw [show (PyData.eqv d e != true) = !PyData.eqv d e by simp] at q
  have sc : ((∃ i j, d = .int i ∧ e = .int j) ∨ (∃ i j, d = .str i ∧ e = .str j) ∨ ∃ i j, d = .bool i ∧ e = .bool j) → ∃ b r, Q b s ∧ OpR X (compareOp .NotEq) r ∧ ∀ K : VK, K (.bl b) H → r u v H K := fun hs => by
    have h1 : Da F d u := data_sc r hx e1 (by rcases hs with ⟨i, j, rfl, rfl⟩ | ⟨i, j, rfl, rfl⟩ | ⟨i, j, rfl, rfl⟩ <;> simp)
    have h2 : Da F e v := data_sc r hy e2 (by rcases hs with ⟨i, j, rfl, rfl⟩ | ⟨i, j, rfl, rfl⟩ | ⟨i, j, rfl, rfl⟩ <;> simp)
    obtain ⟨h3, h4⟩ := eqv_sc (ad := ad) h1 h2 hs
    exact ⟨_, _, q, op_ne, fun K k => ⟨h3, by rw [h4]; exact k⟩⟩
  have dp : SeqAt.shaped d = true ∧ SeqAt.shaped e = true → ∃ b r, Q b s ∧ OpR X (compareOp .NotEq) r ∧ ∀ K : VK, K (.bl b) H → r u v H K := fun ⟨s1, s2⟩ =>
    ⟨_, _, q, op_neD hu, fun K k => ⟨d, e, hx.dp r e1 (SeqAt.canLay_of_shaped s1), hy.dp r e2 (SeqAt.canLay_of_shaped s2), s1, s2, k⟩⟩
  unfold eqOk at ho
  split at ho
  · exact sc (.inl ⟨_, _, rfl, rfl⟩)
  · exact sc (.inr (.inl ⟨_, _, rfl, rfl⟩))
  · exact sc (.inr (.inr ⟨_, _, rfl, rfl⟩))
  · exact dp ho
end
end Kr
/-! layer A6 -/
namespace Kr
open PySem L2
/-! ## defs -/
inductive RV where
  | f (x : PyData)
  | n (c : Cell)
  /-- a new tree; a cell that was handed in -/
  | t (t : Tr)
  | p (k : Nat)
  /-- a tuple that is taken apart: its parts, among them new cells -/
  | u (xs : List AVal) (new : List Cell)
abbrev SpT := List AVal → List Cell → (RV → List Cell → Prop) → Prop
def refsOf : List AVal → List Nat
  | [] => []
  | .r n :: xs => n :: refsOf xs
  | .d _ :: xs => refsOf xs
  | .s _ _ :: xs => refsOf xs
  | .a _ n _ :: xs => n :: refsOf xs
def ren (ns : List Nat) : AVal → AVal
  | .r n => .r (ns.idxOf n)
  | .a p n pt => .a p (ns.idxOf n) pt
  | x => x
def putC (cs : List Cell) : List Nat → List Cell → List Cell
  | n :: ns, c :: ds => putC (cs.set n c) ns ds
  | _, _ => cs
/-- the new cells of a tuple's parts, and the parts by them -/
def newsOf (m : Nat) (xs : List AVal) : List Nat := (refsOf xs).filter fun n => decide (m ≤ n)
def partN (m : Nat) (ns : List Nat) : AVal → AVal
  | .r n => if n < m then .r n else .r (m + ns.idxOf n)
  | x => x
def parts (m : Nat) (cs : List Cell) (P : RV → List Cell → Prop) (xs : List AVal) : Prop := (newsOf m xs).Nodup ∧ onSome (subC cs (newsOf m xs)) fun new => new.all Cell.flat = true ∧ P (.u (xs.map (partN m (newsOf m xs))) new) (cs.take m)
def Cell.pass : Cell → Bool
  | .gone => false
  | c => c.flat
theorem pass_flat {c : Cell} (h : c.pass = true) : c.flat = true := by
  cases c with
  | gone => cases h
  | _ => exact h
theorem pass_gone {c : Cell} (h : c.pass = true) : c ≠ .gone := fun e => by subst e; cases h
def RPost (ad : List Addr) (F H : Hp) (T : List Addr) (P : RV → List Cell → Prop) : VK := fun v H2 =>
  (∃ F2 x cs2, Rl (Bs.at ad F H T) ad F2 H2 ⟨[], cs2⟩ [] ∧ (∀ c ∈ cs2, c.flat = true) ∧ Da F2 x v ∧ P (.f x) cs2) ∨
  (∃ F2 c cs2 p H1 o, Rl (Bs.at ad F H T) ad F2 H1 ⟨[], cs2⟩ [] ∧ (∀ c ∈ cs2, c.flat = true) ∧ v = .ref p ∧ H1 p = none ∧ H2 = upd H1 p o ∧ COk ad F2 H2 p c ∧ c.live = true ∧ c.flat = true ∧ P (.n c) cs2) ∨
  (∃ F2 t cs2 p, Rl (Bs.at ad F H T) (ad ++ [p]) F2 H2 ⟨[], cs2 ++ [.tr t]⟩ [] ∧ (∀ c ∈ cs2, c.flat = true) ∧ v = .ref p ∧ P (.t t) cs2) ∨
  (∃ F2 cs2 k p, Rl (Bs.at ad F H T) ad F2 H2 ⟨[], cs2⟩ [] ∧ (∀ c ∈ cs2, c.flat = true) ∧ ad[k]? = some p ∧ v = .ref p ∧ P (.p k) cs2) ∨
  (∃ F2 cs2 new ex xs vs p, Rl (Bs.at ad F H T) (ad ++ ex) F2 H2 ⟨[], cs2 ++ new⟩ [] ∧ cs2.length = ad.length ∧ (∀ c ∈ cs2 ++ new, c.flat = true) ∧ v = .ref p ∧ H2 p = some (.tup vs) ∧ Paired (VOk (ad ++ ex) F2) xs vs ∧ P (.u xs new) cs2)
def spA (n : Nat) (t : SpT) : Sp := fun vs H Q _ => ∃ F ad cs xs P, vs.length = n ∧ Rl (Bs.at ad F H (cs.flatMap Cell.ads)) ad F H ⟨[], cs⟩ [] ∧ Paired (VOk ad F) xs vs ∧ t xs cs P ∧ ∀ v H2, RPost ad F H (cs.flatMap Cell.ads) P v H2 → Q v H2
def retP (m : Nat) (P : RV → List Cell → Prop) (x : AVal) (s : AS) : Prop := (s.cs.take m).all Cell.flat = true ∧ match x with
  | .d y => P (.f y) (s.cs.take m)
  | .r n => if n < m then P (.p n) (s.cs.take m) else onSome s.cs[n]? fun c => match c with
    | .fz y => P (.f y) (s.cs.take m)
    | .tr t => P (.t t) (s.cs.take m)
    | .nt xs => parts m s.cs P xs
    | c => c.live = true ∧ c.flat = true ∧ P (.n c) (s.cs.take m)
  | .s _ _ => False
  | .a _ _ _ => False
def retD (m : Nat) (P : RV → List Cell → Prop) : DA := ⟨retP m P (.d .none), retP m P, fun _ => False, fun _ => False⟩
def bodyT (k : Nat) (t : Nat → TSA) : SpT := fun xs cs P => t cs.length (retD cs.length P) ⟨xs.map some ++ List.replicate k none, cs⟩
theorem Rl.cells {B : Bs} {ad : List Addr} {F H : Hp} {s : AS} {σ : St} (r : Rl B ad F H s σ) (hf : ∀ c ∈ s.cs.take B.S.length, c.flat = true) : Rl B B.S F H ⟨[], s.cs.take B.S.length⟩ [] := by
  obtain ⟨ad', e, h1⟩ := r.pre
  have hl : B.S.length ≤ s.cs.length := by rw [← r.len, e]; simp
  have inn := r.inn.take (List.take_append_drop B.S.length s.cs).symm
  rw [List.length_take, Nat.min_eq_left hl, e, List.take_left'] at inn
  · refine ⟨r.ff, r.fh, r.hh, r.al, r.new, ⟨[], by simp, (fun _ h => nomatch h)⟩, ?_, by rw [List.length_take]; omega, fun i p c h2 h3 => ?_, rfl, fun k x h => by simp at h, inn⟩
    · have := r.nd
      rw [e] at this
      exact (List.nodup_append.mp this).1
    · have hi : i < B.S.length := (List.getElem?_eq_some_iff.mp h2).1
      obtain ⟨n, l, ok⟩ := r.cel i p c (by rw [e, List.getElem?_append_left hi]; exact h2) (by rw [List.getElem?_take_of_lt hi] at h3; exact h3)
      exact ⟨n, l, ok.flat (hf c (List.mem_of_getElem? h3))⟩
  · rfl
theorem flat_two {cs : List Cell} {n m : Nat} {c : Cell} (hc : cs[n]? = some c) (hn : m ≤ n) : ((cs.take m ++ [c]).flatMap Cell.ads).Sublist (cs.flatMap Cell.ads) := by
  have e : cs = cs.take m ++ cs.drop m := (List.take_append_drop m cs).symm
  have hd : (cs.drop m)[n - m]? = some c := by rw [List.getElem?_drop, show m + (n - m) = n by omega]; exact hc
  have hs : [c].Sublist (cs.drop m) := List.singleton_sublist.mpr (List.mem_of_getElem? hd)
  have : (cs.take m ++ [c]).Sublist cs := by
    conv => rhs; rw [e]
    exact List.Sublist.append (List.Sublist.refl _) hs
  exact sublist_flatMap this
/-- the cells handed in, and one of our own -/
theorem Rl.cells2 {B : Bs} {ad : List Addr} {F H : Hp} {s : AS} {σ : St} {n : Nat} {p : Addr} {c : Cell} (r : Rl B ad F H s σ) (hf : ∀ c ∈ s.cs.take B.S.length, c.flat = true) (hn : B.S.length ≤ n) (hp : ad[n]? = some p) (hc : s.cs[n]? = some c) (hcf : c.flat = true) : Rl B (B.S ++ [p]) F H ⟨[], s.cs.take B.S.length ++ [c]⟩ [] := by
  obtain ⟨ad', e, h1⟩ := r.pre
  have hl : B.S.length ≤ s.cs.length := by rw [← r.len, e]; simp
  have hpa : p ∈ ad' := by
    rw [e, List.getElem?_append_right hn] at hp
    exact List.mem_of_getElem? hp
  have hp0 := h1 p hpa
  have sub := flat_two hc hn
  refine ⟨r.ff, r.fh, r.hh, r.al, r.new, ⟨[p], rfl, fun b hb => by rw [List.mem_singleton] at hb; exact hb ▸ hp0⟩, ?_, by simp [List.length_take]; omega, fun i q d h2 h3 => ?_, rfl, fun k x h => by simp at h, ⟨r.inn.nd.sublist sub, fun q hq i hi => ?_, fun q hq => r.inn.fr q (sub.subset hq), fun q hq => r.inn.own q (sub.subset hq), r.inn.old⟩⟩
  · have nd := r.nd
    rw [e] at nd
    rw [List.nodup_append] at nd ⊢
    exact ⟨nd.1, List.nodup_cons.mpr ⟨(fun h => nomatch h), List.nodup_nil⟩, fun a ha b hb => by
      rw [List.mem_singleton] at hb; subst hb
      exact nd.2.2 a ha b hpa⟩
  · by_cases hi : i < B.S.length
    · rw [List.getElem?_append_left hi] at h2
      rw [List.getElem?_append_left (by rw [List.length_take]; omega)] at h3
      obtain ⟨n, l, ok⟩ := r.cel i q d (by rw [e, List.getElem?_append_left hi]; exact h2) (by rw [List.getElem?_take_of_lt hi] at h3; exact h3)
      exact ⟨n, l, ok.flat (hf d (List.mem_of_getElem? h3))⟩
    · rw [List.getElem?_append_right (by omega)] at h2
      rw [List.getElem?_append_right (by rw [List.length_take]; omega)] at h3
      have e1 : q = p := by have := List.mem_of_getElem? h2; simpa using this
      have e2 : d = c := by have := List.mem_of_getElem? h3; simpa using this
      subst e1; subst e2
      obtain ⟨n, l, ok⟩ := r.cel n q d hp hc
      exact ⟨n, l, ok.flat hcf⟩
  · by_cases hi2 : i < B.S.length
    · rw [List.getElem?_append_left hi2] at hi
      have := r.inn.off q (sub.subset hq) i (by rw [e, List.getElem?_append_left hi2]; exact hi)
      rw [List.getElem?_append_left (by rw [List.length_take]; omega), List.getElem?_take_of_lt hi2]
      exact this
    · have hi3 : i = B.S.length := by
        have := (List.getElem?_eq_some_iff.mp hi).1
        rw [List.length_append, List.length_singleton] at this
        omega
      subst hi3
      rw [List.getElem?_append_right (Nat.le_refl _)] at hi
      have e1 : q = p := by have := List.mem_of_getElem? hi; simpa using this
      subst e1
      have := r.inn.off q (sub.subset hq) n hp
      rw [hc] at this
      rw [List.getElem?_append_right (by rw [List.length_take]; omega), List.length_take, Nat.min_eq_left hl, Nat.sub_self]
      simpa using this
theorem Rl.cellsN {B : Bs} {ad : List Addr} {F H : Hp} {s : AS} {σ : St} {ns : List Nat} {new : List Cell} (r : Rl B ad F H s σ) (hf : ∀ c ∈ s.cs.take B.S.length, c.flat = true) (nd : ns.Nodup) (hn : ∀ n ∈ ns, B.S.length ≤ n) (hs : subC s.cs ns = some new) (hnf : ∀ c ∈ new, c.flat = true) :
    ∃ ex, (∀ (j : Nat) n, ns[j]? = some n → ex[j]? = ad[n]?) ∧ ex.length = ns.length ∧ Rl B (B.S ++ ex) F H ⟨[], s.cs.take B.S.length ++ new⟩ [] := by
  obtain ⟨h1, h2⟩ := subC_ok hs
  obtain ⟨n1, n2⟩ := flat_nd.mp r.inn.nd
  obtain ⟨ad', e, hpre⟩ := r.pre
  have hl : B.S.length ≤ s.cs.length := by rw [← r.len, e]; simp
  have ex0 : ∀ ms : List Nat, (∀ n ∈ ms, n < ad.length) → ∃ ex : List Addr, ex.length = ms.length ∧ ∀ (j : Nat) n, ms[j]? = some n → ex[j]? = ad[n]? := by
    intro ms
    induction ms with
    | nil => intro _; exact ⟨[], rfl, fun j n h => by simp at h⟩
    | cons m ms ih =>
      intro h
      obtain ⟨a', l', e'⟩ := ih fun n hn => h n (List.mem_cons_of_mem _ hn)
      have hm := h m (List.mem_cons_self ..)
      refine ⟨ad[m] :: a', by simp [l'], fun j n hj => ?_⟩
      cases j with
      | zero =>
        have : m = n := by simpa using hj
        subst this
        simp [List.getElem?_eq_getElem hm]
      | succ j => simpa using e' j n (by simpa using hj)
  have hlt : ∀ n ∈ ns, n < ad.length := fun n hn => by
    obtain ⟨j, hj⟩ := List.mem_iff_getElem?.mp hn
    rw [r.len]; exact (h2 j n hj).2
  obtain ⟨ex, lx, hx⟩ := ex0 ns hlt
  refine ⟨ex, hx, lx, ?_⟩
  -- where an index comes from
  have from' : ∀ i, i < B.S.length + ns.length → ∃ i', (B.S ++ ex)[i]? = ad[i']? ∧ (s.cs.take B.S.length ++ new)[i]? = s.cs[i']? ∧ ((i < B.S.length ∧ i' = i) ∨ (B.S.length ≤ i ∧ ns[i - B.S.length]? = some i')) := by
    intro i hi
    by_cases him : i < B.S.length
    · refine ⟨i, ?_, ?_, .inl ⟨him, rfl⟩⟩
      · rw [List.getElem?_append_left him, e, List.getElem?_append_left him]
      · rw [List.getElem?_append_left (by rw [List.length_take]; omega), List.getElem?_take_of_lt him]
    · have hj : ns[i - B.S.length]? = some (ns[i - B.S.length]'(by omega)) := List.getElem?_eq_getElem (by omega)
      refine ⟨_, ?_, ?_, .inr ⟨by omega, hj⟩⟩
      · rw [List.getElem?_append_right (by omega), hx _ _ hj]
      · rw [List.getElem?_append_right (by rw [List.length_take]; omega), List.length_take, Nat.min_eq_left hl, (h2 _ _ hj).1]
  have inj : ∀ i j i', ((i < B.S.length ∧ i' = i) ∨ (B.S.length ≤ i ∧ ns[i - B.S.length]? = some i')) → ((j < B.S.length ∧ i' = j) ∨ (B.S.length ≤ j ∧ ns[j - B.S.length]? = some i')) → i = j := by
    intro i j i' h h'
    rcases h with ⟨h, e1⟩ | ⟨h, e1⟩ <;> rcases h' with ⟨h', e2⟩ | ⟨h', e2⟩
    · omega
    · have := hn i' (List.mem_of_getElem? e2); omega
    · have := hn i' (List.mem_of_getElem? e1); omega
    · have := (List.getElem?_inj (List.getElem?_eq_some_iff.mp e1).1 nd).mp (e1.trans e2.symm)
      omega
  have lenC : (s.cs.take B.S.length ++ new).length = B.S.length + ns.length := by rw [List.length_append, List.length_take, h1]; omega
  have lenA : (B.S ++ ex).length = B.S.length + ns.length := by rw [List.length_append, lx]
  have look : ∀ (i : Nat) c, (s.cs.take B.S.length ++ new)[i]? = some c → ∃ i', (B.S ++ ex)[i]? = ad[i']? ∧ s.cs[i']? = some c ∧ ((i < B.S.length ∧ i' = i) ∨ (B.S.length ≤ i ∧ ns[i - B.S.length]? = some i')) := fun i c hc => by
    have hi := (List.getElem?_eq_some_iff.mp hc).1
    obtain ⟨i', e1, e2, e3⟩ := from' i (by omega)
    exact ⟨i', e1, by rw [← e2]; exact hc, e3⟩
  have up : ∀ q, q ∈ (s.cs.take B.S.length ++ new).flatMap Cell.ads → q ∈ s.cs.flatMap Cell.ads := fun q hq => by
    obtain ⟨c, hc, hq⟩ := List.mem_flatMap.mp hq
    obtain ⟨i, hi⟩ := List.mem_iff_getElem?.mp hc
    obtain ⟨i', _, e2, _⟩ := look i c hi
    exact mem_ads e2 hq
  refine ⟨r.ff, r.fh, r.hh, r.al, r.new, ⟨ex, rfl, fun b hb => ?_⟩, ?_, by rw [lenA]; exact lenC.symm, fun i p c h3 h4 => ?_, rfl, fun k x h => by simp at h, ⟨flat_nd.mpr ⟨fun i c hc => ?_, fun i j c d q hc hd hqc hqd => ?_⟩, fun q hq i hi => ?_, fun q hq => r.inn.fr q (up q hq), fun q hq => r.inn.own q (up q hq), r.inn.old⟩⟩
  · obtain ⟨j, hj⟩ := List.mem_iff_getElem?.mp hb
    have hjl := (List.getElem?_eq_some_iff.mp hj).1
    have hj2 : ns[j]? = some (ns[j]'(by omega)) := List.getElem?_eq_getElem (by omega)
    rw [hx j _ hj2, e, List.getElem?_append_right (hn _ (List.mem_of_getElem? hj2))] at hj
    exact hpre b (List.mem_of_getElem? hj)
  · rw [List.nodup_iff_pairwise_ne, List.pairwise_iff_getElem]
    intro i j hi hj hij ee
    obtain ⟨i', a1, _, a3⟩ := from' i (by omega)
    obtain ⟨j', b1, _, b3⟩ := from' j (by omega)
    have g1 : ad[i']? = some (B.S ++ ex)[i] := by rw [← a1]; exact List.getElem?_eq_getElem hi
    have g2 : ad[j']? = some (B.S ++ ex)[i] := by rw [← b1, ee]; exact List.getElem?_eq_getElem hj
    have := nodup_get r.nd g1 g2
    subst this
    have := inj i j i' a3 b3
    omega
  · have h4 : (s.cs.take B.S.length ++ new)[i]? = some c := h4
    obtain ⟨i', e1, e2, _⟩ := look i c h4
    rw [e1] at h3
    obtain ⟨g1, g2, g3⟩ := r.cel i' p c h3 e2
    refine ⟨g1, g2, g3.flat ?_⟩
    rcases List.mem_append.mp (List.mem_of_getElem? h4) with h | h
    · exact hf c h
    · exact hnf c h
  · obtain ⟨i', _, e2, _⟩ := look i c hc
    exact n1 i' c e2
  · obtain ⟨i', _, e2, e3⟩ := look i c hc
    obtain ⟨j', _, f2, f3⟩ := look j d hd
    have := n2 i' j' c d q e2 f2 hqc hqd
    subst this
    exact inj i j i' e3 f3
  · have hil := (List.getElem?_eq_some_iff.mp hi).1
    obtain ⟨i', e1, e2, _⟩ := from' i (by omega)
    rw [e1] at hi
    have := r.inn.off q (up q hq) i' hi
    rw [← e2] at this
    exact this
theorem mem_refs {n : Nat} : ∀ {xs : List AVal}, AVal.r n ∈ xs → n ∈ refsOf xs
  | .r m :: xs, h => by
    rcases List.mem_cons.mp h with e | h
    · cases e; exact List.mem_cons_self ..
    · exact List.mem_cons_of_mem _ (mem_refs h)
  | .d _ :: xs, h => by
    rcases List.mem_cons.mp h with e | h
    · cases e
    · exact mem_refs (xs := xs) h
  | .s _ _ :: xs, h => by
    rcases List.mem_cons.mp h with e | h
    · cases e
    · exact mem_refs (xs := xs) h
  | .a _ _ _ :: xs, h => by
    rcases List.mem_cons.mp h with e | h
    · cases e
    · exact List.mem_cons_of_mem _ (mem_refs (xs := xs) h)
theorem paired_part {ad ad2 ex : List Addr} {F : Hp} {m : Nat} {ns : List Nat} (hm : m = ad.length) (e : ∃ ad', ad2 = ad ++ ad') (hx : ∀ (j : Nat) n, ns[j]? = some n → ex[j]? = ad2[n]?) : ∀ {xs : List AVal} {vs : List V}, (∀ n, AVal.r n ∈ xs → m ≤ n → n ∈ ns) → Paired (VOk ad2 F) xs vs → Paired (VOk (ad ++ ex) F) (xs.map (partN m ns)) vs
  | [], _, _, .nil => .nil
  | x :: xs, _, hn, .cons h t => by
    refine .cons ?_ (paired_part hm e hx (fun n hx => hn n (List.mem_cons_of_mem _ hx)) t)
    cases x with
    | d y => exact h
    | s _ _ => exact h
    | a _ _ _ => exact h
    | r n =>
      obtain ⟨a, h1, h2⟩ := h
      show VOk (ad ++ ex) F (if n < m then .r n else .r (m + ns.idxOf n)) _
      split
      · rename_i hlt
        obtain ⟨ad', rfl⟩ := e
        refine ⟨a, ?_, h2⟩
        rw [List.getElem?_append_left (by omega)] at h1 ⊢
        exact h1
      · rename_i hlt
        have hmem := hn n (List.mem_cons_self ..) (by omega)
        have hil := List.idxOf_lt_length_of_mem hmem
        have e2 : ns[ns.idxOf n]? = some n := by rw [List.getElem?_eq_getElem hil, List.getElem_idxOf]
        refine ⟨a, ?_, h2⟩
        rw [hm, List.getElem?_append_right (by omega), Nat.add_sub_cancel_left, hx _ n e2]
        exact h1
theorem ret_post {ad ad2 : List Addr} {F H F2 H2 : Hp} {s : AS} {σ : St} {x : AVal} {v : V} {P : RV → List Cell → Prop} {m : Nat} {T : List Addr} (hm : m = ad.length) (r : Rl (Bs.at ad F H T) ad2 F2 H2 s σ) (hv : VOk ad2 F2 x v) (h : retP m P x s) : RPost ad F H T P v H2 := by
  subst hm
  obtain ⟨hf, h⟩ := h
  have hf := List.all_eq_true.mp hf
  have rc := r.cells hf
  cases x with
  | s _ _ => exact h.elim
  | a _ _ _ => exact h.elim
  | d y => exact .inl ⟨F2, y, _, rc, hf, hv, h⟩
  | r n =>
    obtain ⟨p, hp, rfl⟩ := hv
    simp only at h
    split at h
    · rename_i hn
      obtain ⟨ad', e, h4⟩ := r.pre
      refine .inr (.inr (.inr (.inl ⟨F2, _, n, p, rc, hf, ?_, rfl, h⟩)))
      rw [e] at hp
      have hp : (ad ++ ad')[n]? = some p := hp
      rw [List.getElem?_append_left hn] at hp
      exact hp
    · rename_i hn
      have hn : ad.length ≤ n := by omega
      obtain ⟨c, hc, h⟩ := h
      obtain ⟨n0, l, ok⟩ := r.cel n p c hp hc
      have fz : ∀ y, c = .fz y → P (.f y) (s.cs.take ad.length) → RPost ad F H T P (.ref p) H2 := fun y e h => by
        subst e
        exact .inl ⟨F2, y, _, rc, hf, ok, h⟩
      have nw : c.live = true ∧ c.flat = true ∧ P (.n c) (s.cs.take ad.length) → RPost ad F H T P (.ref p) H2 := fun ⟨h1, h2, h3⟩ => by
        obtain ⟨ad', e, h4⟩ := r.pre
        have hpS : p ∉ ad := fun z => by
          have nd := r.nd
          rw [e] at nd hp
          have hp2 : (ad ++ ad')[n]? = some p := hp
          rw [List.getElem?_append_right hn] at hp2
          exact (List.nodup_append.mp nd).2.2 p z p (List.mem_of_getElem? hp2) rfl
        have hp0 : H p = none := by
          have hp2 : (ad ++ ad')[n]? = some p := by rw [e] at hp; exact hp
          rw [List.getElem?_append_right hn] at hp2
          exact h4 p (List.mem_of_getElem? hp2)
        have hpI : p ∉ (s.cs.take ad.length).flatMap Cell.ads := fun z => by
          have z2 : p ∈ s.cs.flatMap Cell.ads := by
            rw [← List.take_append_drop ad.length s.cs, List.flatMap_append]
            exact List.mem_append_left _ z
          rcases r.inn.off p z2 n hp with q | ⟨t, q, _⟩
          · rw [hc] at q; cases q; cases h1
          · rw [hc] at q; cases q; cases h1
        have hpT : p ∉ T := fun z => r.inn.old p z hp0
        · obtain ⟨o, ho⟩ := some_of_ne n0
          exact .inr (.inl ⟨F2, c, _, p, out H2 p, o, rc.aout hpS (l h1) hp0 hpI hpT, hf, rfl, out_same, (upd_out ho).symm, ok.flat h2, h1, h2, h3⟩)
      cases c with
      | fz y => exact fz y rfl h
      | lst _ => exact nw h
      | dK _ => exact nw h
      | pool _ => exact nw h
      | gone => exact nw h
      | nl _ => exact nw h
      | nt xs =>
        obtain ⟨ndn, new, hs, hnf, h⟩ := h
        obtain ⟨vs, hvs, hpv⟩ := ok
        have hge : ∀ k ∈ newsOf ad.length xs, ad.length ≤ k := fun k hk => of_decide_eq_true (List.mem_filter.mp hk).2
        obtain ⟨ex, hx, lx, rx⟩ := r.cellsN hf ndn hge hs (List.all_eq_true.mp hnf)
        obtain ⟨ad', e, _⟩ := r.pre
        refine .inr (.inr (.inr (.inr ⟨F2, _, new, ex, _, vs, p, rx, ?_, ?_, rfl, hvs, paired_part rfl ⟨ad', e⟩ hx (fun k hk hm => List.mem_filter.mpr ⟨mem_refs hk, decide_eq_true hm⟩) hpv, h⟩)))
        · rw [List.length_take, ← r.len, e]; simp
        · intro c hc
          rcases List.mem_append.mp hc with hc | hc
          · exact hf c hc
          · exact List.all_eq_true.mp hnf c hc
      | nd _ => exact nw h
      | dl _ _ _ => exact nw h
      | tr t => exact .inr (.inr (.inl ⟨F2, t, _, p, r.cells2 hf hn hp hc rfl, hf, rfl, h⟩))
section
variable {P : Program} {w : World} {K : PySem.W.Frag} {mg : Str → Option Value} {base : Heap}
theorem paired_slots {ad : List Addr} {F : Hp} {xs : List AVal} {vs : List V} {k : Nat} (h : Paired (VOk ad F) xs vs) : ∀ (j : Nat) (x : AVal), (xs.map some ++ List.replicate k none)[j]? = some (some x) → ∃ v, (vs.map some ++ List.replicate k none)[j]? = some (some v) ∧ VOk ad F x v := by
  intro j x hj
  have hl := Paired.len h
  by_cases hlt : j < xs.length
  · rw [List.getElem?_append_left (by simpa using hlt), List.getElem?_map] at hj
    rw [List.getElem?_append_left (by simp; omega), List.getElem?_map]
    cases hx : xs[j]? with
    | none => rw [hx] at hj; cases hj
    | some y =>
      rw [hx] at hj
      have : y = x := by simpa using hj
      subst this
      obtain ⟨v, h1, h2⟩ := Paired.get h hx
      exact ⟨v, by rw [h1]; rfl, h2⟩
  · rw [List.getElem?_append_right (by simp; omega)] at hj
    rw [List.getElem?_replicate] at hj
    split at hj <;> cases hj
theorem okA {x qual : Str} {st : Stmt} {f : Addr} {fd : FuncData} {N ps : List Str} {k : Nat} {t : Nat → TSA} (Fn : Fun K x qual st f fd) (S : FnScope N ps (defScope st))
    (hbody : ∀ (cdv : Value) (A : Around) (outer : List Env) (s : Shared) (H : Hp) (E : XK) (B : Bs), Room k (A.deeper (PyProof.Rows.envOfC qual (defScope st) s.heap.objs.size f cdv)) → SS (cxOf CX0 P w K mg base N qual (defScope st) f cdv A outer s H E).nox B (defBody st) (t B.S.length)) :
    FnOk P w K mg base CX0 (k + 1) f fd ps (spA ps.length (bodyT (N.length - ps.length) t)) :=
  okW Fn S (fun vs H Q E ⟨F, ad, cs, xs, P, hl, _⟩ => hl) fun cdv A outer s H vs Q E hr ⟨F, ad, cs, xs, P, hl, r, hp, ht, q⟩ => by
    have hsl : Rl (Bs.at ad F H (cs.flatMap Cell.ads)) ad F H ⟨xs.map some ++ List.replicate (N.length - ps.length) none, cs⟩ (start N vs) := by
      refine ⟨r.ff, r.fh, r.hh, r.al, r.new, r.pre, r.nd, r.len, r.cel, ?_, ?_, r.inn⟩
      · unfold L2.start
        simp [Paired.len hp, hl]
      · unfold L2.start
        rw [hl]
        exact paired_slots hp
    have hm : cs.length = ad.length := r.len.symm
    intro pins sh I
    have ht' : t ad.length (retD cs.length P) ⟨xs.map some ++ List.replicate (N.length - ps.length) none, cs⟩ := by rw [← hm]; exact ht
    refine thn ((hbody cdv A outer s H E (Bs.at ad F H (cs.flatMap Cell.ads)) hr).run _ _ ht' ad F H _ hsl pins sh I) fun fl s' z => ?_
    cases fl with
    | next =>
      obtain ⟨σ2, H2, I2, ad2, F2, s2, r2, h2⟩ := z
      exact ⟨σ2, H2, I2, q .non H2 (ret_post hm r2 (x := .d .none) rfl h2)⟩
    | brk => obtain ⟨σ2, H2, I2, ad2, F2, s2, r2, h2⟩ := z; exact h2.elim
    | cont => obtain ⟨σ2, H2, I2, ad2, F2, s2, r2, h2⟩ := z; exact h2.elim
    | ret u =>
      obtain ⟨v, σ2, H2, I2, rv, ad2, F2, x2, s2, σ3, r2, hv, h2⟩ := z
      exact ⟨v, σ2, H2, I2, rv, q v H2 (ret_post hm r2 hv h2)⟩
end
/-! ## calls -/
theorem putC_len : ∀ (ns : List Nat) (ds cs : List Cell), (putC cs ns ds).length = cs.length
  | [], ds, cs => by simp [putC]
  | n :: ns, [], cs => by simp [putC]
  | n :: ns, c :: ds, cs => by simp [putC, putC_len ns ds]
theorem putC_ne : ∀ {ns : List Nat} {ds cs : List Cell} {i : Nat}, i ∉ ns → (putC cs ns ds)[i]? = cs[i]?
  | [], ds, cs, i, h => by simp [putC]
  | n :: ns, [], cs, i, h => by simp [putC]
  | n :: ns, c :: ds, cs, i, h => by
    have h1 : i ≠ n := fun z => h (by simp [z])
    show (putC (cs.set n c) ns ds)[i]? = _
    rw [putC_ne (fun z => h (List.mem_cons_of_mem _ z)), List.getElem?_set_ne (fun z => h1 z.symm)]
theorem putC_at : ∀ {ns : List Nat} {ds cs : List Cell} {j n : Nat}, ns.Nodup → ds.length = ns.length → n < cs.length → ns[j]? = some n → (putC cs ns ds)[n]? = ds[j]?
  | [], ds, cs, j, n, _, _, _, h => by simp at h
  | m :: ns, [], cs, j, n, _, hl, _, h => by simp at hl
  | m :: ns, c :: ds, cs, j, n, nd, hl, hlt, h => by
    have nd' := List.nodup_cons.mp nd
    show (putC (cs.set m c) ns ds)[n]? = _
    cases j with
    | zero =>
      have : m = n := by simpa using h
      subst this
      rw [putC_ne nd'.1, List.getElem?_set_self hlt]; rfl
    | succ j =>
      simpa using putC_at (j := j) nd'.2 (by simpa using hl) (by simpa using hlt) (by simpa using h)
def callW (t : SpT) (xs : List AVal) (s : AS) (P : RV → AS → Prop) : Prop :=
  (refsOf xs).Nodup ∧ onSome (subC s.cs (refsOf xs)) fun cs => cs.all Cell.pass = true ∧ t (xs.map (ren (refsOf xs))) cs fun rv cs2 => cs2.length = cs.length → P rv ⟨s.sl, putC s.cs (refsOf xs) cs2⟩
theorem refs_mem {n : Nat} : ∀ {xs : List AVal}, AVal.r n ∈ xs → n ∈ refsOf xs
  | .r m :: xs, h => by
    rcases List.mem_cons.mp h with e | h
    · cases e; exact List.mem_cons_self ..
    · exact List.mem_cons_of_mem _ (refs_mem h)
  | .d _ :: xs, h => by
    rcases List.mem_cons.mp h with e | h
    · cases e
    · exact refs_mem (xs := xs) h
  | .s _ _ :: xs, h => by
    rcases List.mem_cons.mp h with e | h
    · cases e
    · exact refs_mem (xs := xs) h
  | .a _ _ _ :: xs, h => by
    rcases List.mem_cons.mp h with e | h
    · cases e
    · exact List.mem_cons_of_mem _ (refs_mem (xs := xs) h)
theorem Rl.sub {B : Bs} {ad : List Addr} {F H : Hp} {s : AS} {σ : St} (r : Rl B ad F H s σ) {ns : List Nat} {cs : List Cell} (nd : ns.Nodup) (hs : subC s.cs ns = some cs) (hf : ∀ c ∈ cs, c.flat = true) :
    ∃ ad', ad'.length = ns.length ∧ (∀ (j : Nat) n, ns[j]? = some n → ad'[j]? = ad[n]?) ∧ (∀ b ∈ ad', b ∈ ad) ∧ Rl (Bs.at ad' F H (cs.flatMap Cell.ads)) ad' F H ⟨[], cs⟩ [] := by
  obtain ⟨h1, h2⟩ := subC_ok hs
  have ex : ∀ ms : List Nat, (∀ n ∈ ms, n < ad.length) → ∃ ad' : List Addr, ad'.length = ms.length ∧ ∀ (j : Nat) n, ms[j]? = some n → ad'[j]? = ad[n]? := by
    intro ms
    induction ms with
    | nil => intro _; exact ⟨[], rfl, fun j n h => by simp at h⟩
    | cons m ms ih =>
      intro h
      obtain ⟨a', l', e'⟩ := ih fun n hn => h n (List.mem_cons_of_mem _ hn)
      have hm := h m (List.mem_cons_self ..)
      refine ⟨ad[m] :: a', by simp [l'], fun j n hj => ?_⟩
      cases j with
      | zero =>
        have : m = n := by simpa using hj
        subst this
        simp [List.getElem?_eq_getElem hm]
      | succ j => simpa using e' j n (by simpa using hj)
  have hlt : ∀ n ∈ ns, n < ad.length := fun n hn => by
    obtain ⟨j, hj⟩ := List.mem_iff_getElem?.mp hn
    have := (h2 j n hj).2
    rw [r.len]; exact this
  obtain ⟨ad', l', e'⟩ := ex ns hlt
  have back : ∀ (j : Nat) b, ad'[j]? = some b → ∃ n, ns[j]? = some n ∧ ad[n]? = some b := fun j b hj => by
    have hl := (List.getElem?_eq_some_iff.mp hj).1
    have hj2 : ns[j]? = some ns[j] := List.getElem?_eq_getElem (by omega)
    exact ⟨_, hj2, by rw [← e' j _ hj2]; exact hj⟩
  have sub : ∀ b ∈ ad', b ∈ ad := fun b hb => by
    obtain ⟨j, hj⟩ := List.mem_iff_getElem?.mp hb
    obtain ⟨n, _, hn⟩ := back j b hj
    exact List.mem_of_getElem? hn
  have upI : ∀ q, q ∈ cs.flatMap Cell.ads → q ∈ s.cs.flatMap Cell.ads := fun q hq => by
    obtain ⟨c, hc, hq⟩ := List.mem_flatMap.mp hq
    obtain ⟨j, hj⟩ := List.mem_iff_getElem?.mp hc
    have hl := (List.getElem?_eq_some_iff.mp hj).1
    have hj2 : ns[j]? = some ns[j] := List.getElem?_eq_getElem (by omega)
    exact mem_ads (by rw [← (h2 j _ hj2).1]; exact hj) hq
  have nsOf : ∀ (j : Nat) c, cs[j]? = some c → ∃ n, ns[j]? = some n ∧ s.cs[n]? = some c := fun j c hj => by
    have hl := (List.getElem?_eq_some_iff.mp hj).1
    have hj2 : ns[j]? = some ns[j] := List.getElem?_eq_getElem (by omega)
    exact ⟨_, hj2, by rw [← (h2 j _ hj2).1]; exact hj⟩
  obtain ⟨n1, n2⟩ := flat_nd.mp r.inn.nd
  have inn : Inn (Bs.at ad' F H (cs.flatMap Cell.ads)) ad' F H cs := by
    refine ⟨flat_nd.mpr ⟨fun j c hj => ?_, fun i j c d q hc hd hqc hqd => ?_⟩, fun q hq j hj => ?_, fun q hq => r.inn.fr q (upI q hq), fun q hq => .inr (.inl hq), fun b hb => (r.inn.fr b (upI b hb)).2⟩
    · obtain ⟨n, _, hn⟩ := nsOf j c hj
      exact n1 n c hn
    · obtain ⟨a, ha, hca⟩ := nsOf i c hc
      obtain ⟨b, hb, hdb⟩ := nsOf j d hd
      have := n2 a b c d q hca hdb hqc hqd
      subst this
      exact (List.getElem?_inj (List.getElem?_eq_some_iff.mp ha).1 nd).mp (ha.trans hb.symm)
    · obtain ⟨n, hn, hna⟩ := back j q hj
      have := r.inn.off q (upI q hq) n hna
      rw [← (h2 j n hn).1] at this
      exact this
  refine ⟨ad', l', e', sub, Same.refl _, r.fh, fun _ _ _ _ e => e, fun b hb => hb.elim (fun h => r.mem (sub b h)) (fun h => (r.inn.fr b (upI b h)).2), fun b e _ => e, ⟨[], by simp [Bs.at], (fun _ h => nomatch h)⟩, ?_, by simp [l', h1], fun j p c hj hc => ?_, rfl, fun k x h => by simp at h, inn⟩
  · rw [List.nodup_iff_pairwise_ne, List.pairwise_iff_getElem]
    intro i j hi hj hij e
    have a1 : ad'[i]? = some ad'[i] := List.getElem?_eq_getElem hi
    have a2 : ad'[j]? = some ad'[i] := by rw [List.getElem?_eq_getElem hj, e]
    obtain ⟨n, n1, n2⟩ := back i _ a1
    obtain ⟨m, m1, m2⟩ := back j _ a2
    have := nodup_get r.nd n2 m2
    subst this
    have := (List.getElem?_inj (by omega) nd).mp (n1.trans m1.symm)
    omega
  · obtain ⟨n, n1, n2⟩ := back j p hj
    have hc' : s.cs[n]? = some c := by rw [← (h2 j n n1).1]; exact hc
    obtain ⟨n0, l, ok⟩ := r.cel n p c n2 hc'
    exact ⟨n0, l, ok.flat (hf c (List.mem_of_getElem? hc))⟩
theorem Rl.unsubX {B : Bs} {ad ad' ex : List Addr} {F H F2 H2 : Hp} {s : AS} {σ : St} {ns : List Nat} {cs cs2 cx : List Cell} (r : Rl B ad F H s σ) (nd : ns.Nodup) (hs : subC s.cs ns = some cs) (hg : ∀ c ∈ cs, c ≠ .gone) (hl : ad'.length = ns.length) (he : ∀ (j : Nat) n, ns[j]? = some n → ad'[j]? = ad[n]?) (sub : ∀ b ∈ ad', b ∈ ad)
    (q : Rl (Bs.at ad' F H (cs.flatMap Cell.ads)) (ad' ++ ex) F2 H2 ⟨[], cs2 ++ cx⟩ []) (hl2 : cs2.length = ns.length) (hf : ∀ c ∈ cs2 ++ cx, c.flat = true) : Rl B (ad ++ ex) F2 H2 ⟨s.sl, putC s.cs ns cs2 ++ cx⟩ σ := by
  obtain ⟨h1, h2⟩ := subC_ok hs
  obtain ⟨n1, n2⟩ := flat_nd.mp r.inn.nd
  obtain ⟨m1, m2⟩ := flat_nd.mp q.inn.nd
  have hlx : ex.length = cx.length := by
    have := q.len
    simp only [List.length_append] at this
    omega
  have hex : ∀ b ∈ ex, H b = none := fun b hb => by
    obtain ⟨a3, e3, h3⟩ := q.pre
    have e4 : ex = a3 := List.append_cancel_left e3
    exact h3 b (e4 ▸ hb)
  have nsOf : ∀ (j : Nat) n, ns[j]? = some n → ∃ c, s.cs[n]? = some c ∧ c ∈ cs := fun j n hj => by
    have hjl := (List.getElem?_eq_some_iff.mp hj).1
    have e1 : cs[j]? = some cs[j] := List.getElem?_eq_getElem (by omega)
    exact ⟨_, by rw [← (h2 j n hj).1]; exact e1, List.mem_of_getElem? e1⟩
  have csOf : ∀ x, x ∈ cs.flatMap Cell.ads → ∃ n c, n ∈ ns ∧ s.cs[n]? = some c ∧ x ∈ c.ads := fun x hx => by
    obtain ⟨c, hc, hx⟩ := List.mem_flatMap.mp hx
    obtain ⟨j, hj⟩ := List.mem_iff_getElem?.mp hc
    have hjl := (List.getElem?_eq_some_iff.mp hj).1
    have hj2 : ns[j]? = some ns[j] := List.getElem?_eq_getElem (by omega)
    exact ⟨_, c, List.mem_of_getElem? hj2, by rw [← (h2 j _ hj2).1]; exact hj, hx⟩
  have adOf : ∀ x, x ∈ ad' → ∃ n c, n ∈ ns ∧ ad[n]? = some x ∧ s.cs[n]? = some c ∧ c ∈ cs := fun x hx => by
    obtain ⟨j, hj⟩ := List.mem_iff_getElem?.mp hx
    have hjl := (List.getElem?_eq_some_iff.mp hj).1
    have hj2 : ns[j]? = some ns[j] := List.getElem?_eq_getElem (by omega)
    obtain ⟨c, hc, hm⟩ := nsOf j _ hj2
    exact ⟨_, c, List.mem_of_getElem? hj2, by rw [← he j _ hj2]; exact hj, hc, hm⟩
  -- a tree's address that is not among those handed in
  have offS : ∀ (i : Nat) c x, i ∉ ns → s.cs[i]? = some c → x ∈ c.ads → x ∉ ad' ∧ x ∉ cs.flatMap Cell.ads := fun i c x hi hc hx => by
    refine ⟨fun z => ?_, fun z => ?_⟩
    · obtain ⟨n, d, hn, hna, hnd, hm⟩ := adOf x z
      rcases r.inn.off x (mem_ads hc hx) n hna with e | ⟨t, e, et⟩
      · rw [hnd] at e; cases e; exact hg _ hm rfl
      · have hxt : x ∈ (Cell.tr t).ads := by
          cases t with
          | d _ => cases et
          | nd k a xs => cases et; exact List.mem_cons_self ..
        exact hi (n2 i n c _ x hc e hx hxt ▸ hn)
    · obtain ⟨n, d, hn, hnd, hxd⟩ := csOf x z
      exact hi (n2 i n c d x hc hnd hx hxd ▸ hn)
  have look : ∀ (i : Nat) c, (putC s.cs ns cs2 ++ cx)[i]? = some c → (i ∉ ns ∧ s.cs[i]? = some c) ∨ ∃ j, (cs2 ++ cx)[j]? = some c ∧ (ns[j]? = some i ∨ (ns.length ≤ j ∧ i = s.cs.length + (j - ns.length))) := by
    intro i c hc
    by_cases hil : i < s.cs.length
    · rw [List.getElem?_append_left (by rw [putC_len]; exact hil)] at hc
      by_cases hi : i ∈ ns
      · obtain ⟨j, hj⟩ := List.mem_iff_getElem?.mp hi
        have hjl := (List.getElem?_eq_some_iff.mp hj).1
        rw [putC_at nd hl2 hil hj] at hc
        exact .inr ⟨j, by rw [List.getElem?_append_left (by omega)]; exact hc, .inl hj⟩
      · rw [putC_ne hi] at hc
        exact .inl ⟨hi, hc⟩
    · rw [List.getElem?_append_right (by rw [putC_len]; omega), putC_len] at hc
      refine .inr ⟨ns.length + (i - s.cs.length), ?_, .inr ⟨by omega, by omega⟩⟩
      rw [List.getElem?_append_right (by omega), hl2, Nat.add_sub_cancel_left]
      exact hc
  -- where an address of all stands
  have lookA : ∀ (i : Nat) x, (ad ++ ex)[i]? = some x → (i ∉ ns ∧ ad[i]? = some x ∧ (putC s.cs ns cs2 ++ cx)[i]? = s.cs[i]?) ∨ ∃ j, (ad' ++ ex)[j]? = some x ∧ (putC s.cs ns cs2 ++ cx)[i]? = (cs2 ++ cx)[j]? ∧ (ns[j]? = some i ∨ (ns.length ≤ j ∧ i = s.cs.length + (j - ns.length))) := by
    intro i x hx
    have hal := r.len
    by_cases hil : i < s.cs.length
    · rw [List.getElem?_append_left (by omega)] at hx
      by_cases hi : i ∈ ns
      · obtain ⟨j, hj⟩ := List.mem_iff_getElem?.mp hi
        have hjl := (List.getElem?_eq_some_iff.mp hj).1
        refine .inr ⟨j, by rw [List.getElem?_append_left (by omega), he j i hj]; exact hx, ?_, .inl hj⟩
        rw [List.getElem?_append_left (by rw [putC_len]; exact hil), putC_at nd hl2 hil hj, List.getElem?_append_left (by omega)]
      · exact .inl ⟨hi, hx, by rw [List.getElem?_append_left (by rw [putC_len]; exact hil), putC_ne hi]⟩
    · rw [List.getElem?_append_right (by omega)] at hx
      refine .inr ⟨ns.length + (i - s.cs.length), ?_, ?_, .inr ⟨by omega, by omega⟩⟩
      · rw [List.getElem?_append_right (by omega), hl, Nat.add_sub_cancel_left, ← hal]; exact hx
      · rw [List.getElem?_append_right (by rw [putC_len]; omega), putC_len, List.getElem?_append_right (by omega), hl2, Nat.add_sub_cancel_left]
  have inj : ∀ (j i i' : Nat), (ns[j]? = some i ∨ (ns.length ≤ j ∧ i = s.cs.length + (j - ns.length))) → (ns[j]? = some i' ∨ (ns.length ≤ j ∧ i' = s.cs.length + (j - ns.length))) → i = i' := by
    intro j i i' h h'
    rcases h with h | ⟨h, e⟩ <;> rcases h' with h' | ⟨h', e'⟩
    · rw [h] at h'; exact Option.some.inj h'
    · have := (List.getElem?_eq_some_iff.mp h).1; omega
    · have := (List.getElem?_eq_some_iff.mp h').1; omega
    · omega
  have ownJ : ∀ x, x ∈ (cs2 ++ cx).flatMap Cell.ads → x ∈ ad' ∨ x ∈ cs.flatMap Cell.ads ∨ H x = none := q.inn.own
  have inn : Inn B (ad ++ ex) F2 H2 (putC s.cs ns cs2 ++ cx) := by
    refine ⟨flat_nd.mpr ⟨fun i c hc => ?_, fun i i' c d x hc hd hxc hxd => ?_⟩, fun x hx i hi => ?_, fun x hx => ?_, fun x hx => ?_, r.inn.old⟩
    · rcases look i c hc with ⟨_, h⟩ | ⟨j, h, _⟩
      · exact n1 i c h
      · exact m1 j c h
    · have mix : ∀ (a : Nat) (j : Nat) c d, a ∉ ns → s.cs[a]? = some c → (cs2 ++ cx)[j]? = some d → x ∈ c.ads → x ∈ d.ads → False := fun a j c d ha hc hd hxc hxd => by
        obtain ⟨o1, o2⟩ := offS a c x ha hc hxc
        rcases ownJ x (mem_ads hd hxd) with z | z | z
        · exact o1 z
        · exact o2 z
        · exact (r.inn.fr x (mem_ads hc hxc)).2 z
      rcases look i c hc with ⟨hi, h⟩ | ⟨j, h, hj⟩ <;> rcases look i' d hd with ⟨hi', h'⟩ | ⟨j', h', hj'⟩
      · exact n2 i i' c d x h h' hxc hxd
      · exact (mix i j' c d hi h h' hxc hxd).elim
      · exact (mix i' j d c hi' h' h hxd hxc).elim
      · have := m2 j j' c d x h h' hxc hxd
        subst this
        exact inj j i i' hj hj'
    · obtain ⟨c, hc, hxc⟩ := List.mem_flatMap.mp hx
      obtain ⟨i0, hi0⟩ := List.mem_iff_getElem?.mp hc
      rcases lookA i x hi with ⟨hin, hia, e⟩ | ⟨j, hj, e, hji⟩
      · rw [e]
        rcases look i0 c hi0 with ⟨h0, h0c⟩ | ⟨j0, h0c, _⟩
        · exact r.inn.off x (mem_ads h0c hxc) i hia
        · rcases ownJ x (mem_ads h0c hxc) with z | z | z
          · obtain ⟨n, d, hn, hna, _⟩ := adOf x z
            exact absurd (nodup_get r.nd hia hna ▸ hn) hin
          · obtain ⟨n, d, hn, hnd, hxd⟩ := csOf x z
            exact r.inn.off x (mem_ads hnd hxd) i hia
          · exact absurd z (r.mem (List.mem_of_getElem? hia))
      · rw [e]
        rcases look i0 c hi0 with ⟨h0, h0c⟩ | ⟨j0, h0c, _⟩
        · obtain ⟨o1, o2⟩ := offS i0 c x h0 h0c hxc
          rcases List.mem_append.mp (List.mem_of_getElem? hj) with z | z
          · exact absurd z o1
          · exact absurd (hex x z) (r.inn.fr x (mem_ads h0c hxc)).2
        · exact q.inn.off x (mem_ads h0c hxc) j hj
    · obtain ⟨c, hc, hxc⟩ := List.mem_flatMap.mp hx
      obtain ⟨i0, hi0⟩ := List.mem_iff_getElem?.mp hc
      rcases look i0 c hi0 with ⟨h0, h0c⟩ | ⟨j0, h0c, _⟩
      · obtain ⟨f1, f2⟩ := r.inn.fr x (mem_ads h0c hxc)
        exact ⟨q.new x f1 f2, q.there f2⟩
      · exact q.inn.fr x (mem_ads h0c hxc)
    · obtain ⟨c, hc, hxc⟩ := List.mem_flatMap.mp hx
      obtain ⟨i0, hi0⟩ := List.mem_iff_getElem?.mp hc
      rcases look i0 c hi0 with ⟨h0, h0c⟩ | ⟨j0, h0c, _⟩
      · exact r.inn.own x (mem_ads h0c hxc)
      · rcases ownJ x (mem_ads h0c hxc) with z | z | z
        · exact (r.inS (sub x z)).elim .inl fun z => .inr (.inr z)
        · obtain ⟨n, d, hn, hnd, hxd⟩ := csOf x z
          exact r.inn.own x (mem_ads hnd hxd)
        · exact .inr (.inr (r.fresh z).1)
  refine ⟨r.ff.trans q.ff, q.fh, fun b o hb ht e => ?_, fun b hb => q.there (r.al b hb), fun b e n => q.new b (r.new b e n) (r.there n), ?_, ?_, ?_, fun i p c h3 h4 => ?_, r.sln, fun k x h => ?_, inn⟩
  · refine q.hh b o (fun z => ?_) (fun z => ?_) (r.hh b o hb ht e)
    · rcases r.inS (sub b z) with z | z
      · exact hb z
      · rw [z] at e; cases e
    · obtain ⟨n, d, hn, hnd, hxd⟩ := csOf b z
      rcases r.inn.own b (mem_ads hnd hxd) with z | z | z
      · exact hb z
      · exact ht z
      · rw [z] at e; cases e
  · obtain ⟨a3, e3, h5⟩ := r.pre
    refine ⟨a3 ++ ex, by rw [e3, List.append_assoc], fun b hb => ?_⟩
    rcases List.mem_append.mp hb with hb | hb
    · exact h5 b hb
    · exact (r.fresh (hex b hb)).1
  · rw [List.nodup_append]
    refine ⟨r.nd, (List.nodup_append.mp q.nd).2.1, fun a ha b hb e => ?_⟩
    subst e
    exact r.mem ha (hex a hb)
  · show (ad ++ ex).length = (putC s.cs ns cs2 ++ cx).length
    rw [List.length_append, List.length_append, putC_len, r.len, hlx]
  · rcases lookA i p h3 with ⟨hi, hia, e⟩ | ⟨j, hj, e, _⟩
    · have h4 : (putC s.cs ns cs2 ++ cx)[i]? = some c := h4
      rw [e] at h4
      obtain ⟨n0, l, ok⟩ := r.cel i p c hia h4
      by_cases hgn : c = .gone
      · subst hgn
        exact ⟨q.there n0, (fun z => by cases z), trivial⟩
      · have hp : p ∉ ad' := fun z => by
          obtain ⟨n, d, hn, hna, _⟩ := adOf p z
          exact hi (nodup_get r.nd hia hna ▸ hn)
        have hpT : p ∉ cs.flatMap Cell.ads := fun z => by
          obtain ⟨n, d, hn, hnd, hxd⟩ := csOf p z
          rcases r.inn.off p (mem_ads hnd hxd) i hia with e | ⟨t, e, et⟩
          · rw [h4] at e; exact hgn (Option.some.inj e)
          · have hxt : p ∈ (Cell.tr t).ads := by
              cases t with
              | d _ => cases et
              | nd k a xs => cases et; exact List.mem_cons_self ..
            exact hi (n2 i n _ d p e hnd hxt hxd ▸ hn)
        have keep : ∀ o, H p = some o → H2 p = some o := fun o e => q.hh p o hp hpT e
        exact ⟨q.there n0, fun z => q.new p (l z) n0, ok.mono ⟨ex, rfl⟩ q.ff keep fun x hx o ho => q.hh x o (offS i c x hi h4 hx).1 (offS i c x hi h4 hx).2 ho⟩
    · have h4 : (putC s.cs ns cs2 ++ cx)[i]? = some c := h4
      rw [e] at h4
      obtain ⟨n0, l, ok⟩ := q.cel j p c hj h4
      exact ⟨n0, l, ok.flat (hf c (List.mem_of_getElem? h4))⟩
  · obtain ⟨v, h5, h6⟩ := r.slt k x h
    exact ⟨v, h5, h6.mono ⟨ex, rfl⟩ q.ff⟩
theorem Rl.unsub {B : Bs} {ad ad' : List Addr} {F H F2 H2 : Hp} {s : AS} {σ : St} {ns : List Nat} {cs cs2 : List Cell} (r : Rl B ad F H s σ) (nd : ns.Nodup) (hs : subC s.cs ns = some cs) (hg : ∀ c ∈ cs, c ≠ .gone) (hl : ad'.length = ns.length) (he : ∀ (j : Nat) n, ns[j]? = some n → ad'[j]? = ad[n]?) (sub : ∀ b ∈ ad', b ∈ ad)
    (q : Rl (Bs.at ad' F H (cs.flatMap Cell.ads)) ad' F2 H2 ⟨[], cs2⟩ []) (hf : ∀ c ∈ cs2, c.flat = true) : Rl B ad F2 H2 ⟨s.sl, putC s.cs ns cs2⟩ σ := by
  have := r.unsubX (ex := []) (cx := []) nd hs hg hl he sub (by simpa using q) (by rw [← hl]; exact q.len.symm) (by simpa using hf)
  simpa using this
theorem paired_ren {ad ad' : List Addr} {F : Hp} {ns : List Nat} (he : ∀ (j : Nat) n, ns[j]? = some n → ad'[j]? = ad[n]?) : ∀ {xs : List AVal} {vs : List V}, (∀ n, AVal.r n ∈ xs → n ∈ ns) → Paired (VOk ad F) xs vs → Paired (VOk ad' F) (xs.map (ren ns)) vs
  | [], _, _, .nil => .nil
  | x :: xs, _, hn, .cons h t => by
    refine .cons ?_ (paired_ren he (fun n hx => hn n (List.mem_cons_of_mem _ hx)) t)
    cases x with
    | d y => exact h
    | s _ _ => exact h
    | a _ _ _ => exact h
    | r n =>
      obtain ⟨a, h1, h2⟩ := h
      have hm := hn n (List.mem_cons_self ..)
      refine ⟨a, ?_, h2⟩
      have hlt := List.idxOf_lt_length_of_mem hm
      have e : ns[ns.idxOf n]? = some n := by rw [List.getElem?_eq_getElem hlt, List.getElem_idxOf]
      rw [he _ n e]
      exact h1
/-- what a call leaves -/
def resF (Q : VQ) : RV → AS → Prop := fun rv s => match rv with
  | .f x => Q (.d x) s
  | .n c => onSome (frzC c) fun d => Q (.d d) s
  | .t _ => False
  | .p _ => False
  | .u _ _ => False
def resO (ns : List Nat) (Q : VQ) : RV → AS → Prop := fun rv s => match rv with
  | .f x => Q (.d x) s
  | .n c => Q (.r s.cs.length) ⟨s.sl, s.cs ++ [c]⟩
  | .t t => Q (.r s.cs.length) ⟨s.sl, s.cs ++ [.tr t]⟩
  | .p k => onSome ns[k]? fun n => Q (.r n) s
  | .u _ _ => False
/-- a tuple taken apart behind a call -/
def backN (m : Nat) (ns : List Nat) (w : Nat) : AVal → Option AVal
  | .r n => if n < m then (ns[n]?).map .r else some (.r (w + (n - m)))
  | .d x => some (.d x)
  | _ => none
def backs (m : Nat) (ns : List Nat) (w : Nat) : List AVal → Option (List AVal)
  | [] => some []
  | x :: xs => (backN m ns w x).bind fun y => (backs m ns w xs).map (y :: ·)
def resU (ns : List Nat) (Q : List AVal → AS → Prop) : RV → AS → Prop := fun rv s => match rv with
  | .u xs new => onSome (backs ns.length ns s.cs.length xs) fun ys => Q ys ⟨s.sl, s.cs ++ new⟩
  | .f (.tuple ds) => Q (ds.map .d) s
  | _ => False
def callF (t : SpT) (tl : TLA) : TEA := fun s Q => tl s fun xs s1 => callW t xs s1 (resF Q)
def callO (t : SpT) (tl : TLA) : TEA := fun s Q => tl s fun xs s1 => callW t xs s1 (resO (refsOf xs) Q)
section
variable {X : Cx} {B : Bs} {e : Expr} {es : List Expr} {k n : Nat} {f : Addr} {fd : FuncData} {ps : List Str} {t : SpT} {x : Str} {p pos : Pos} {tl : TLA} {σ : St}
theorem call_post {ad : List Addr} {F H : Hp} {s : AS} {xs : List AVal} {vs : List V} {P : RV → AS → Prop} {Q : VK} (hn : vs.length = n) (r : Rl B ad F H s σ) (hv : Paired (VOk ad F) xs vs) (h : callW t xs s P)
    (hF : ∀ F2 H2 y v s2, Rl B ad F2 H2 s2 σ → Same F F2 → Da F2 y v → P (.f y) s2 → Q v H2)
    (hN : ∀ F2 H1 H2 c p o s2, Rl B ad F2 H1 s2 σ → Same F F2 → H1 p = none → H2 = upd H1 p o → COk ad F2 H2 p c → c.live = true → P (.n c) s2 → Q (.ref p) H2)
    (hT : ∀ F2 H2 t p s2, Rl B (ad ++ [p]) F2 H2 ⟨s2.sl, s2.cs ++ [.tr t]⟩ σ → s2.cs.length = ad.length → Same F F2 → P (.t t) s2 → Q (.ref p) H2)
    (hP : ∀ F2 H2 k n p s2, Rl B ad F2 H2 s2 σ → Same F F2 → (refsOf xs)[k]? = some n → ad[n]? = some p → P (.p k) s2 → Q (.ref p) H2)
    (hU : ∀ F2 H2 ex new ad' ys ws p s2, Rl B (ad ++ ex) F2 H2 ⟨s2.sl, s2.cs ++ new⟩ σ → s2.cs.length = ad.length → Same F F2 → ad'.length = (refsOf xs).length → (∀ (j : Nat) n, (refsOf xs)[j]? = some n → ad'[j]? = ad[n]?) → H2 p = some (.tup ws) → Paired (VOk (ad' ++ ex) F2) ys ws → P (.u ys new) s2 → Q (.ref p) H2) : spA n t vs H Q E0 := by
  obtain ⟨nd, cs, hs, hf, ht⟩ := h
  have hf := List.all_eq_true.mp hf
  have hg : ∀ c ∈ cs, c ≠ .gone := fun c hc => pass_gone (hf c hc)
  obtain ⟨ad', hl, he, sub, rs⟩ := r.sub nd hs fun c hc => pass_flat (hf c hc)
  have hcl : cs.length = ad'.length := rs.len.symm
  refine ⟨F, ad', cs, xs.map (ren (refsOf xs)), _, hn, rs, paired_ren he (fun n hx => refs_mem hx) hv, ht, fun v H2 hp => ?_⟩
  rcases hp with ⟨F2, y, cs2, r2, hf2, hd, hp⟩ | ⟨F2, c, cs2, p, H1, o, r2, hf2, rfl, hp1, e2, ok, hlv, hfl, hp⟩ | ⟨F2, t, cs2, p, r2, hf2, rfl, hp⟩ | ⟨F2, cs2, k, p, r2, hf2, hk, rfl, hp⟩ | ⟨F2, cs2, new, ex, ys, ws, p, r2, hl3, hf2, rfl, hpt, hys, hp⟩
  · exact hF F2 H2 y v _ (r.unsub nd hs hg hl he sub r2 hf2) r2.ff hd (hp (by rw [hcl]; exact r2.len.symm))
  · exact hN F2 H1 H2 c p o _ (r.unsub nd hs hg hl he sub r2 hf2) r2.ff hp1 e2 (ok.flat hfl) hlv (hp (by rw [hcl]; exact r2.len.symm))
  · have hl3 : cs2.length = ad'.length := by
      have := r2.len
      simp only [List.length_append, List.length_singleton] at this
      omega
    refine hT F2 H2 t p _ (r.unsubX nd hs hg hl he sub r2 (by omega) (fun c hc => ?_)) ?_ r2.ff (hp (by rw [hcl]; exact hl3))
    · rcases List.mem_append.mp hc with hc | hc
      · exact hf2 c hc
      · rw [List.mem_singleton] at hc; subst hc; rfl
    · show (putC s.cs (refsOf xs) cs2).length = _
      rw [putC_len]; exact r.len.symm
  · have hkl := (List.getElem?_eq_some_iff.mp hk).1
    have hj : (refsOf xs)[k]? = some (refsOf xs)[k] := List.getElem?_eq_getElem (by omega)
    refine hP F2 H2 k _ p _ (r.unsub nd hs hg hl he sub r2 hf2) r2.ff hj ?_ (hp (by rw [hcl]; exact r2.len.symm))
    rw [← he k _ hj]; exact hk
  · refine hU F2 H2 ex new ad' ys ws p _ (r.unsubX nd hs hg hl he sub r2 (by omega) hf2) ?_ r2.ff hl he hpt hys (hp (by rw [hcl]; exact hl3))
    show (putC s.cs (refsOf xs) cs2).length = _
    rw [putC_len]; exact r.len.symm
theorem ea_callF (G : FnOk X.prog X.w X.K X.mg X.base CX0 k f fd ps (spA n t)) (hr : Room k X.A) (hm : X.mg x = some (.ref f)) (hk : PySem.W.keepIn X.K (.ref f) = true) (hb : Binds X.K fd ps []) (ha : EL X B (e :: es) tl)
    (hn : (e :: es).length = n := by rfl) (hg : Gl X x := by rfl) (hdb : (x == ("__debug__" : Str)) = false := by decide) (l : Pl X e es pos := by exact ⟨rfl, rfl⟩) : EA X B (.Call (.Name x p) (e :: es) [] pos) (callF t tl) := ⟨fun ad F H s σ Q r h =>
  we_of (pe_call G hr hg hm hk hb .nil pass0 pa_wa hdb l.he l.hpl) ((ha.run ad F H s σ _ r h).imp fun vs H1 q => by
    obtain ⟨ad1, F1, xs, s1, e1, k1, r1, hv, hxl, q⟩ := q
    show spA n t (vs ++ []) H1 _ E0
    rw [List.append_nil]
    exact call_post (by rw [← Paired.len hv, hxl]; exact hn) r1 hv q (fun F2 H2 y v s2 r2 k2 hd hp => ⟨ad1, F2, .d y, s2, e1, k1.trans k2, r2, hd, hp⟩)
      (fun F2 H2 H3 c p o s2 r2 k2 hp e3 ok hl hP => PostN.frz (Q := Q) ⟨ad1, F2, c, s2, p, H2, o, e1, k1.trans k2, r2, rfl, hp, e3, ok, hl, hP⟩) (fun F2 H2 t p s2 _ _ _ h => h.elim) (fun F2 H2 k n p s2 _ _ _ _ h => h.elim) (fun F2 H2 ex new ad' ys ws p s2 _ _ _ _ _ _ _ h => h.elim))⟩
theorem ea_callO (G : FnOk X.prog X.w X.K X.mg X.base CX0 k f fd ps (spA n t)) (hr : Room k X.A) (hm : X.mg x = some (.ref f)) (hk : PySem.W.keepIn X.K (.ref f) = true) (hb : Binds X.K fd ps []) (ha : EL X B (e :: es) tl)
    (hn : (e :: es).length = n := by rfl) (hg : Gl X x := by rfl) (hdb : (x == ("__debug__" : Str)) = false := by decide) (l : Pl X e es pos := by exact ⟨rfl, rfl⟩) : EA X B (.Call (.Name x p) (e :: es) [] pos) (callO t tl) := ⟨fun ad F H s σ Q r h =>
  we_of (pe_call G hr hg hm hk hb .nil pass0 pa_wa hdb l.he l.hpl) ((ha.run ad F H s σ _ r h).imp fun vs H1 q => by
    obtain ⟨ad1, F1, xs, s1, e1, k1, r1, hv, hxl, q⟩ := q
    show spA n t (vs ++ []) H1 _ E0
    rw [List.append_nil]
    exact call_post (by rw [← Paired.len hv, hxl]; exact hn) r1 hv q (fun F2 H2 y v s2 r2 k2 hd hp => ⟨ad1, F2, .d y, s2, e1, k1.trans k2, r2, hd, hp⟩)
      (fun F2 H2 H3 c p o s2 r2 k2 hp e3 ok hl hP => PostN.owned (Q := Q) ⟨ad1, F2, c, s2, p, H2, o, e1, k1.trans k2, r2, rfl, hp, e3, ok, hl, hP⟩)
      (fun F2 H2 t p s2 r2 hl2 k2 hP => ⟨ad1 ++ [p], F2, .r s2.cs.length, _, e1.trans ⟨[p], rfl⟩, k1.trans k2, r2, ⟨p, by rw [hl2]; simp, rfl⟩, hP⟩)
      (fun F2 H2 k n p s2 r2 k2 hk hp ⟨n', hn', hP⟩ => ⟨ad1, F2, .r n, s2, e1, k1.trans k2, r2, ⟨p, hp, rfl⟩, by rw [hk] at hn'; cases hn'; exact hP⟩) (fun F2 H2 ex new ad' ys ws p s2 _ _ _ _ _ _ _ h => h.elim))⟩
def callU (t : SpT) (tl : TLA) (g : List AVal → AS → (AS → Prop) → Prop) : TSA := fun D s => tl s fun xs s1 => callW t xs s1 (resU (refsOf xs) fun ys s2 => g ys s2 D.nx)
end
end Kr
/-! layer A7 -/
namespace Kr
open PySem L2
section
variable {X : Cx} {B : Bs} {ad : List Addr} {F H : Hp} {s : AS} {σ : St} {x y : AVal} {u v : V} {a b c e f o : Expr} {es : List Expr} {pos p p2 q q2 apos cpos tpos : Pos} {ta tb tc to : TEA} {tl : TLA}
/-! ## items -/
def rAnyI (X : Cx) : R2 := fun u v H Q => ∃ r, IxR X r ∧ r u v H Q
theorem ix_any : IxR X (rAnyI X) := fun value slice pins s σ H x y v u Q I rx ry ⟨r, h, q⟩ hs => h value slice pins s σ H x y v u Q I rx ry q hs
open PySem.Spec PyProof.Rows in
theorem ix_dict (hu : X.A.units + 1 < cLine) : IxR X (fun x y H Q => ∃ a v, x = .ref a ∧ DGet H a y (some v) ∧ Q v H) := by
  intro value slice pins s σ H x y v u Q I rx ry h hs
  obtain ⟨a, w, rfl, g, q⟩ := h
  cases rx
  have hT := dict_typeIs I g
  unfold subscriptTail
  refine wpAny_bind ?_
  rw [getitemInPython_of_ne hT.not_modules]
  refine wpAny_bind (wpAny_specialOf hT PySem.F.slot_dict_getitem.lookup ?_)
  have fin : wpAny (model X.prog X.w) X.A (subscripted slice false (.ref a) u) (fun r s₃ => wpAny (model X.prog X.w) X.A (letTemporaryGo value (.ref a) r >>= fun _ => pure r) (EP X pins σ Q) X.xe s₃) X.xe s := by
    rw [hs]
    exact wpAny_operating (d_getItem hu I g ry fun w' s3 I3 rw' => wpAny_bind (wpAny_letTemporaryGo (wpAny_pure ⟨w, H, I3, rw', q⟩)))
  first
    | exact wpAny_pure (wpAny_bind fin)
    | exact wpAny_bind (wpAny_pure (wpAny_bind fin))
    | exact wpAny_bind fin
def ixA : AVal → AVal → TEA := fun x y s Q => match view s x with
  | .seq xs => onSome y.int? fun i => onSome (L2.atI xs i) fun z => Q z s
  | .dct kvs => onSome y.key? fun k => onSome (getA kvs k) fun z => Q z s
  | .txt z => onSome y.int? fun i => z.length ≤ sizeLine ∧ onSome (L2.atI z.cps.toList i) fun c => Q (.d (.str ⟨#[c]⟩)) s
  | .oth => False
theorem ea_ix (hu : X.A.units + 1 < cLine) (ha : EA X B a ta) (hb : EA X B b tb) (hs : PlainIx b := by exact fun _ _ => rfl) : EA X B (.Subscript a b pos) (opA ixA ta tb) := ⟨fun ad F H s σ Q r t =>
  we_of (pe_ix ix_any pe_we pe_we hs) (we2 (R := fun u v H2 => rAnyI X u v H2 (Post B ad F σ Q)) (K := Post B ad F σ Q) ha hb r t fun ad2 F2 H2 s2 x y u v e k r2 hu2 hv t2 => by
    unfold ixA at t2
    split at t2
    · rename_i xs hx
      obtain ⟨i, ei, z, ez, q⟩ := t2
      have := AVal.int?_of ei
      subst this
      obtain ⟨l, vs, rfl, hl, hp⟩ := hu2.seq r2 hx
      obtain ⟨w, hw, hz⟩ := Paired.atI hp ez
      rcases hl with hl | hl
      · exact ⟨_, ix_list, l, vs, i, w, rfl, hv, SqL.of hl, hw, (Post.here r2 hz q).up e k⟩
      · exact ⟨_, ix_tup, l, vs, i, w, rfl, hv, SqT.of hl, hw, (Post.here r2 hz q).up e k⟩
    · rename_i kvs hx
      obtain ⟨k2, ek, z, ez, q⟩ := t2
      obtain ⟨l, es, rfl, hl, hp⟩ := hu2.dct r2 hx
      have hk := AVal.key?_ok ek hv
      subst hk
      have hg := hp.get (k := k2)
      rw [ez] at hg
      obtain ⟨w, hw, hz⟩ := hg
      exact ⟨_, ix_dict hu, l, w, rfl, hw ▸ .inl ⟨es, _, hl, rfl, rfl⟩, (Post.here r2 hz q).up e k⟩
    · rename_i z hx
      obtain ⟨i, ei, hz, c, ec, q⟩ := t2
      have := AVal.int?_of ei
      subst this
      have := hu2.txt r2 hx
      subst this
      exact ⟨_, ix_str, z, i, c, rfl, hv, hz, ec, (Post.here (x := .d (.str ⟨#[c]⟩)) r2 rfl q).up e k⟩
    · exact t2.elim)⟩
/-! ## slices -/
def rAnySl (X : Cx) : V → Option Int → Option Int → Hp → VK → Prop := fun x lo hi H Q => ∃ r, SlR X r ∧ r x lo hi H Q
theorem sl_any : SlR X (rAnySl X) := by
  intro pins s σ H x v vl vu lo hi sl Q I rx hs pl pu h
  obtain ⟨r, h1, h2⟩ := h
  exact h1 pins s σ H x v vl vu lo hi sl Q I rx hs pl pu h2
def cutD (ds : List PyData) (lo hi : Option Int) : List PyData := (ds.drop (HT.sIx ds.length 0 lo)).take (HT.sIx ds.length ds.length hi - HT.sIx ds.length 0 lo)
theorem DaAll.cut {ds : List PyData} {vs : List V} (h : DaAll F ds vs) (lo hi : Option Int) : DaAll F (cutD ds lo hi) (cutV vs lo hi) := by
  unfold cutD cutV
  rw [h.length]
  exact (h.drop _).take _
def slA (lo hi : Option Int) (x : AVal) : TEA := fun s Q => match view s x with
  | .txt z => z.length ≤ sizeLine ∧ Q (.d (.str (cutS z lo hi))) s
  | _ => onSome (listOf s x) fun ds => Q (.d (.list (cutD ds lo hi))) s
def slN (lo hi : Option Int) (x : AVal) : TNA := fun s Q => onSome (listOf s x) fun ds => Q (.lst (cutD ds lo hi)) s
theorem slA_ok {lo hi : Option Int} {Q : VQ} (r : Rl B ad F H s σ) (hx : VOk ad F x u) (t : slA lo hi x s Q) : rAnySl X u lo hi H (Post B ad F σ Q) := by
  have ls : (onSome (listOf s x) fun ds => Q (.d (.list (cutD ds lo hi))) s) → rAnySl X u lo hi H (Post B ad F σ Q) := by
    rintro ⟨ds, e, q⟩
    obtain ⟨l, vs, rfl, h1, h2⟩ := hx.list r e
    exact ⟨_, sl_list, l, vs, rfl, SqL.of h1, fun p hp => .newD (d := .list (cutD ds lo hi)) r hp ⟨p, _, rfl, upd_same, (h2.cut lo hi).mono (same_upd (r.fh.free hp))⟩ q⟩
  unfold slA at t
  split at t
  · rename_i z hz
    have := hx.txt r hz
    subst this
    exact ⟨_, sl_str, z, rfl, t.1, .here (x := .d (.str _)) r rfl t.2⟩
  · exact ls t
theorem slUp {Q Q' : VK} {lo hi : Option Int} (h : rAnySl X u lo hi H Q) (k : ∀ v H', Q v H' → Q' v H') : rAnySl X u lo hi H Q' := by
  obtain ⟨r, h1, h2⟩ := h
  refine ⟨fun x lo hi H K => ∃ K', (∀ w H', K' w H' → K w H') ∧ r x lo hi H K', ?_, _, k, h2⟩
  intro pins s σ H x v vl vu lo hi sl Q I rx hs pl pu ⟨K', k1, k2⟩
  obtain ⟨T, id, e1, e2, e3⟩ := h1 pins s σ H x v vl vu lo hi sl K' I rx hs pl pu k2
  exact ⟨T, id, e1, e2, thn e3 fun z s' ⟨w, H', I', rz, qz⟩ => ⟨w, H', I', rz, k1 w H' qz⟩⟩
def slHi (ta tb : TEA) : TEA := fun s Q => ta s fun x s1 => tb s1 fun y s2 => onSome y.int? fun i => slA none (some i) x s2 Q
def slLo (ta tb : TEA) : TEA := fun s Q => ta s fun x s1 => tb s1 fun y s2 => onSome y.int? fun i => slA (some i) none x s2 Q
def slHiN (ta tb : TEA) : TNA := fun s Q => ta s fun x s1 => tb s1 fun y s2 => onSome y.int? fun i => slN none (some i) x s2 Q
def slLoN (ta tb : TEA) : TNA := fun s Q => ta s fun x s1 => tb s1 fun y s2 => onSome y.int? fun i => slN (some i) none x s2 Q
theorem ea_slHi (ha : EA X B a ta) (hb : EA X B b tb) : EA X B (.Subscript a (.Slice none (some b) none p2) pos) (slHi ta tb) := ⟨fun ad F H s σ Q r t =>
  we_of (pe_slice sl_any pe_we po_none (po_some pe_we)) (we2 (R := fun u v H2 => ∃ i, v = .int i ∧ rAnySl X u none (some i) H2 (Post B ad F σ Q)) (K := fun _ _ => True) ha hb r t fun ad2 F2 H2 s2 x y u v e k r2 hu hv ⟨i, ei, t2⟩ => by
    have := AVal.int?_of ei
    subst this
    exact ⟨i, hv, slUp (slA_ok r2 hu t2) fun _ _ h => h.up e k⟩)⟩
theorem ea_slLo (ha : EA X B a ta) (hb : EA X B b tb) : EA X B (.Subscript a (.Slice (some b) none none p2) pos) (slLo ta tb) := ⟨fun ad F H s σ Q r t =>
  we_of (pe_slice sl_any pe_we (po_some pe_we) po_none) (we2 (R := fun u v H2 => ∃ i, v = .int i ∧ rAnySl X u (some i) none H2 (Post B ad F σ Q)) (K := fun _ _ => True) ha hb r t fun ad2 F2 H2 s2 x y u v e k r2 hu hv ⟨i, ei, t2⟩ => by
    have := AVal.int?_of ei
    subst this
    exact ⟨i, hv, slUp (slA_ok r2 hu t2) fun _ _ h => h.up e k⟩)⟩
/-! ## in, not in -/
def flatD : PyData → Bool
  | .none => true
  | .bool _ => true
  | .int _ => true
  | .str _ => true
  | _ => false
def eqF : PyData → PyData → Bool
  | .none, .none => true
  | .bool a, .bool b => a == b
  | .bool a, .int b => (if a then 1 else 0) == b
  | .int a, .bool b => a == (if b then 1 else 0)
  | .int a, .int b => a == b
  | .str a, .str b => a == b
  | _, _ => false
def inD (x : PyData) (ds : List PyData) : Bool := ds.any fun y => eqF y x
theorem flat_ok {d : PyData} (h : flatD d = true) (hd : Da F d v) : flatV v = true := by
  cases d with
  | none => obtain rfl : v = .non := hd; rfl
  | bool _ => obtain rfl : v = .bl _ := hd; rfl
  | int _ => obtain rfl : v = .int _ := hd; rfl
  | str _ => obtain rfl : v = .str _ := hd; rfl
  | _ => cases h
theorem eqF_ok {d e : PyData} (h1 : flatD d = true) (h2 : flatD e = true) (hd : Da F d u) (he : Da F e v) : eqV u v = eqF d e := by
  cases d <;> cases e <;> simp only [flatD] at h1 h2 <;> (try exact absurd h1 (by decide)) <;> (try exact absurd h2 (by decide)) <;> (simp only [Da] at hd he; subst hd; subst he; rfl)
theorem flats_ok : ∀ {ds : List PyData} {vs : List V}, (ds.all flatD) = true → DaAll F ds vs → vs.all flatV = true
  | [], _, _, h => by obtain rfl := (show _ = [] from h); rfl
  | d :: ds, _, hf, h => by
    obtain ⟨v, r, rfl, h1, h2⟩ := (show ∃ v r, _ = v :: r ∧ Da F d v ∧ DaAll F ds r from h)
    have hf' : flatD d = true ∧ ds.all flatD = true := by simpa using hf
    simp only [List.all_cons, Bool.and_eq_true]
    exact ⟨flat_ok hf'.1 h1, flats_ok hf'.2 h2⟩
theorem inD_ok {d : PyData} (hd : flatD d = true) (hu : Da F d u) : ∀ {ds : List PyData} {vs : List V}, (ds.all flatD) = true → DaAll F ds vs → inV u vs = inD d ds
  | [], _, _, h => by obtain rfl := (show _ = [] from h); rfl
  | e :: ds, _, hf, h => by
    obtain ⟨v, r, rfl, h1, h2⟩ := (show ∃ v r, _ = v :: r ∧ Da F e v ∧ DaAll F ds r from h)
    have hf' : flatD e = true ∧ ds.all flatD = true := by simpa using hf
    have ih := inD_ok hd hu hf'.2 h2
    unfold inV inD at ih ⊢
    rw [List.any_cons, List.any_cons, ih, eqF_ok hf'.1 hd h1 hu]
def inT (neg : Bool) : AVal → AVal → TTA := fun x y s Q => match view s y with
  | .dct kvs => onSome x.key? fun k => Q ((getA kvs k).isSome != neg) s
  | .txt z => onSome x.str? fun w => onSome (w.cps.toList.head?) fun c => w = ⟨#[c]⟩ ∧ Q (decide (c ∈ z.cps.toList) != neg) s
  | _ => onSome (listOf s y) fun ds => onSome x.data? fun d => (flatD d = true ∧ ds.all flatD = true) ∧ Q (inD d ds != neg) s
theorem op_din (hu : X.A.units + 1 < cLine) : OpR X (compareOp .In) (fun x y H Q => ∃ a o, y = .ref a ∧ DGet H a x o ∧ Q (.bl o.isSome) H) := by
  intro pins s σ H x y v u Q I rx ry h
  obtain ⟨a, o, rfl, g, q⟩ := h
  cases ry
  exact d_in hu I g rx fun s3 I3 => ⟨.bl o.isSome, H, I3, rfl, q⟩
theorem op_dnotin (hu : X.A.units + 1 < cLine) : OpR X (compareOp .NotIn) (fun x y H Q => ∃ a o, y = .ref a ∧ DGet H a x o ∧ Q (.bl (!o.isSome)) H) := by
  intro pins s σ H x y v u Q I rx ry h
  obtain ⟨a, o, rfl, g, q⟩ := h
  cases ry
  exact d_notIn hu I g rx fun s3 I3 => ⟨.bl (!o.isSome), H, I3, rfl, q⟩
theorem getA_isSome {kvs : List (Key × AVal)} {es : List (Key × V)} {k : Key} (h : KrOk ad F kvs es) : (valV es k).isSome = (getA kvs k).isSome := by
  have := h.get (k := k)
  cases hg : getA kvs k with
  | none => rw [hg] at this; rw [this]; rfl
  | some x => rw [hg] at this; obtain ⟨v, hv, _⟩ := this; rw [hv]; rfl
theorem o_in (hu : X.A.units + 1 < cLine) : OpT X B (compareOp .In) (inT false) := fun ad F H s σ x y u v Q r hx hy t => by
  unfold inT at t
  split at t
  · rename_i kvs hk
    obtain ⟨k, ek, q⟩ := t
    obtain ⟨l, es, rfl, hl, hp⟩ := hy.dct r hk
    have := AVal.key?_ok ek hx
    subst this
    refine ⟨_, _, q, op_din hu, fun K kk => ⟨l, valV es k, rfl, .inl ⟨es, _, hl, rfl, rfl⟩, ?_⟩⟩
    rw [getA_isSome hp]
    simpa using kk
  · rename_i z hz
    obtain ⟨w, ew, c, ec, e2, q⟩ := t
    have := AVal.str?_of ew
    subst this
    have := hy.txt r hz
    subst this
    subst e2
    exact ⟨_, _, q, op_in_sign, fun K kk => ⟨c, z, hx, rfl, by simpa using kk⟩⟩
  · obtain ⟨ds, e, d, ed, ⟨f1, f2⟩, q⟩ := t
    have := AVal.data?_of ed
    subst this
    obtain ⟨l, vs, rfl, h1, h2⟩ := hy.list r e
    exact ⟨_, _, q, op_in_seq, fun K kk => ⟨l, vs, rfl, .inl (SqL.of h1), flat_ok f1 hx, flats_ok f2 h2, by rw [inD_ok f1 hx f2 h2]; simpa using kk⟩⟩
theorem o_notIn (hu : X.A.units + 1 < cLine) : OpT X B (compareOp .NotIn) (inT true) := fun ad F H s σ x y u v Q r hx hy t => by
  unfold inT at t
  split at t
  · rename_i kvs hk
    obtain ⟨k, ek, q⟩ := t
    obtain ⟨l, es, rfl, hl, hp⟩ := hy.dct r hk
    have := AVal.key?_ok ek hx
    subst this
    refine ⟨_, _, q, op_dnotin hu, fun K kk => ⟨l, valV es k, rfl, .inl ⟨es, _, hl, rfl, rfl⟩, ?_⟩⟩
    rw [getA_isSome hp]
    simpa using kk
  · rename_i z hz
    obtain ⟨w, ew, c, ec, e2, q⟩ := t
    have := AVal.str?_of ew
    subst this
    have := hy.txt r hz
    subst this
    subst e2
    exact ⟨_, _, q, op_notIn_sign, fun K kk => ⟨c, z, hx, rfl, by simpa using kk⟩⟩
  · obtain ⟨ds, e, d, ed, ⟨f1, f2⟩, q⟩ := t
    have := AVal.data?_of ed
    subst this
    obtain ⟨l, vs, rfl, h1, h2⟩ := hy.list r e
    exact ⟨_, _, q, op_notIn_seq, fun K kk => ⟨l, vs, rfl, .inl (SqL.of h1), flat_ok f1 hx, flats_ok f2 h2, by rw [inD_ok f1 hx f2 h2]; simpa using kk⟩⟩
/-! ## == [], != [] -/
def nilT (neg : Bool) (ta : TEA) : TTA := fun s Q => ta s fun x s1 => onSome (listOf s1 x) fun ds => Q (ds.isEmpty != neg) s1
theorem op_neLen (hu : X.A.units + 64 < cLine) : OpR X (compareOp .NotEq) (rNeLen X.K) := by
  intro pins s σ H x y v u Q I rx ry h
  obtain ⟨a, b, xs, ys, rfl, rfl, h1, h2, hne, q⟩ := h
  cases rx; cases ry
  obtain ⟨its, rv, hl, hz⟩ := I.list h1
  obtain ⟨its2, rv2, hl2, hz2⟩ := I.list h2
  refine SeqAt.RcNeAt.lists_lengths hl.isList hl2.isList ?_ (by omega) _ _ _ _ ⟨.bl true, H, I, rfl, q⟩
  have e1 := rv.length
  have e2 := rv2.length
  simp only [List.size_toArray, bne_iff_ne, ne_eq]
  omega
theorem nilOp (neg : Bool) (hu : X.A.units + 64 < cLine) {ds : List PyData} {l m : Addr} {vs : List V} (h1 : H l = some (.lst vs)) (h2 : DaAll F ds vs) (h3 : H m = some (.lst [])) : ∃ r, OpR X (compareOp (if neg then .NotEq else .Eq)) r ∧ ∀ K : VK, K (.bl (ds.isEmpty != neg)) H → r (.ref l) (.ref m) H K := by
  cases ds with
  | nil =>
    obtain rfl : vs = [] := h2
    have d1 : Dp X.K H (.ref l) (.list []) := .lst (SqL.of h1) .nil
    have d2 : Dp X.K H (.ref m) (.list []) := .lst (SqL.of h3) .nil
    cases neg with
    | false => exact ⟨_, op_eqD hu, fun K k => ⟨_, _, d1, d2, rfl, rfl, k⟩⟩
    | true => exact ⟨_, op_neD hu, fun K k => ⟨_, _, d1, d2, rfl, rfl, k⟩⟩
  | cons d ds =>
    have hl := h2.length
    cases neg with
    | false => exact ⟨_, op_eqLen hu, fun K k => ⟨l, m, vs, [], rfl, rfl, SqL.of h1, SqL.of h3, by rw [hl]; simp, k⟩⟩
    | true => exact ⟨_, op_neLen hu, fun K k => ⟨l, m, vs, [], rfl, rfl, SqL.of h1, SqL.of h3, by rw [hl]; simp, k⟩⟩
theorem we_nil {Q : VK} (q : ∀ p, H p = none → Q (.ref p) (upd H p (.lst []))) {lp : Pos} : WE X (.List [] lp) σ H Q := we_of (pe_lst pa_nil) ⟨by decide, fun p hp => q p hp⟩
theorem nil_run (neg : Bool) (hu : X.A.units + 64 < cLine) (ha : EA X B a ta) {lp : Pos} {Q : Bool → AS → Prop} {K : Bool → VK} (r : Rl B ad F H s σ) (t : nilT neg ta s Q) (hK : ∀ b H', PostT B ad F σ Q b H' → K b (.bl b) H') :
    WE X a σ H fun u H1 => WE X (.List [] lp) σ H1 fun v H2 => rAny X (compareOp (if neg then .NotEq else .Eq)) u v H2 fun w H3 => ∃ b, w = .bl b ∧ K b w H3 :=
  (ha.run ad F H s σ _ r t).imp fun u H1 q => by
    obtain ⟨ad1, F1, x, s1, e1, k1, r1, v1, ds, ed, q⟩ := q
    refine we_nil fun p hp => ?_
    have r2 := r1.gr ((Gr.refl r1.fh).open' (o := .lst []) hp)
    obtain ⟨l, vs, rfl, h1, h2⟩ := v1.list r1 ed
    have hlp : l ≠ p := ne_of_none h1 hp
    obtain ⟨rr, ho, hk⟩ := nilOp (X := X) neg hu (H := upd H1 p (.lst [])) (l := l) (m := p) (by rw [upd_ne hlp]; exact h1) h2 upd_same
    exact ⟨rr, ho, hk _ ⟨_, rfl, hK _ _ ⟨ad1, F1, s1, e1, k1, r2, q⟩⟩⟩
theorem et_eqNil (hu : X.A.units + 64 < cLine) (ha : EA X B a ta) {lp : Pos} : ET X B (.Compare a [.Eq] [.List [] lp] pos) (nilT false ta) := ⟨fun ad F H s σ Q r t =>
  wt_of (pt_cmpR (op_any _) pe_we pe_we (nomark _)) (nil_run false hu ha r t (K := fun b w H3 => PostT B ad F σ Q b H3) fun _ _ h => h)⟩
theorem et_neNil (hu : X.A.units + 64 < cLine) (ha : EA X B a ta) {lp : Pos} : ET X B (.Compare a [.NotEq] [.List [] lp] pos) (nilT true ta) := ⟨fun ad F H s σ Q r t =>
  wt_of (pt_cmpR (op_any _) pe_we pe_we (nomark _)) (nil_run true hu ha r t (K := fun b w H3 => PostT B ad F σ Q b H3) fun _ _ h => h)⟩
theorem rAny_imp {f : Value → Value → Sem Value} {Q Q' : VK} (h : rAny X f u v H Q) (k : ∀ w H', Q w H' → Q' w H') : rAny X f u v H Q' := by
  obtain ⟨r, h1, h2⟩ := h
  exact ⟨fun u v H K => ∃ K', (∀ w H', K' w H' → K w H') ∧ r u v H K', fun pins s σ H x y v u Q I rx ry ⟨K', k1, k2⟩ => thn (h1 pins s σ H x y v u K' I rx ry k2) fun z s' ⟨w, H', I', rz, qz⟩ => ⟨w, H', I', rz, k1 w H' qz⟩, _, k, h2⟩
theorem ea_eqNil (hu : X.A.units + 64 < cLine) (ha : EA X B a ta) {lp : Pos} : EA X B (.Compare a [.Eq] [.List [] lp] pos) (boolA (nilT false ta)) := ⟨fun ad F H s σ Q r t =>
  we_of (pe_cmpR (op_any _) pe_we pe_we (nomark _)) ((nil_run false hu ha r t (K := fun b w H3 => Post B ad F σ Q w H3) fun b H' ⟨ad2, F2, a2, e, k, r2, q⟩ => ⟨ad2, F2, .d (.bool b), a2, e, k, r2, rfl, q⟩).imp fun u H1 q => q.imp fun v H2 q => rAny_imp q fun w H3 ⟨b, _, p⟩ => p)⟩
end
end Kr
/-! layer A8 -/
namespace Kr
open PySem L2
def strs? : List PyData → Option (List Str)
  | [] => some []
  | .str x :: ds => (strs? ds).map (x :: ·)
  | _ => none
def ints? : List PyData → Option (List Int)
  | [] => some []
  | .int x :: ds => (ints? ds).map (x :: ·)
  | _ => none
theorem strs?_of : ∀ {ds : List PyData} {xs : List Str}, strs? ds = some xs → ds = xs.map .str
  | [], xs, h => by cases h; rfl
  | .str x :: ds, xs, h => by
    have h' : (strs? ds).map (x :: ·) = some xs := h
    cases hs : strs? ds with
    | none => rw [hs] at h'; cases h'
    | some ys => rw [hs] at h'; cases h'; rw [strs?_of hs]; rfl
  | .none :: _, _, h => by cases h
  | .bool _ :: _, _, h => by cases h
  | .int _ :: _, _, h => by cases h
  | .list _ :: _, _, h => by cases h
  | .tuple _ :: _, _, h => by cases h
  | .dict _ :: _, _, h => by cases h
theorem ints?_of : ∀ {ds : List PyData} {xs : List Int}, ints? ds = some xs → ds = xs.map .int
  | [], xs, h => by cases h; rfl
  | .int x :: ds, xs, h => by
    have h' : (ints? ds).map (x :: ·) = some xs := h
    cases hs : ints? ds with
    | none => rw [hs] at h'; cases h'
    | some ys => rw [hs] at h'; cases h'; rw [ints?_of hs]; rfl
  | .none :: _, _, h => by cases h
  | .bool _ :: _, _, h => by cases h
  | .str _ :: _, _, h => by cases h
  | .list _ :: _, _, h => by cases h
  | .tuple _ :: _, _, h => by cases h
  | .dict _ :: _, _, h => by cases h
theorem strs?_map (xs : List Str) : strs? (xs.map .str) = some xs := by
  induction xs with
  | nil => rfl
  | cons x xs ih => show (strs? (xs.map .str)).map _ = _; rw [ih]; rfl
theorem ints?_map (xs : List Int) : ints? (xs.map .int) = some xs := by
  induction xs with
  | nil => rfl
  | cons x xs ih => show (ints? (xs.map .int)).map _ = _; rw [ih]; rfl
def srtD (ds : List PyData) : Option (List PyData) := match strs? ds with
  | some xs => some ((srt xs).map .str)
  | none => (ints? ds).map fun ns => (srtI ns).map .int
theorem srtD_strs (xs : List Str) : srtD (xs.map .str) = some ((srt xs).map .str) := by unfold srtD; rw [strs?_map]
theorem srtD_ints (xs : List Int) : srtD (xs.map .int) = some ((srtI xs).map .int) := by
  cases xs with
  | nil => simp [srtD, strs?, srt, srtI]
  | cons x xs =>
    have : strs? ((x :: xs).map .int) = none := rfl
    unfold srtD
    rw [this, ints?_map]
    rfl
section
variable {X : Cx} {B : Bs} {ad : List Addr} {F H : Hp} {s : AS} {σ : St} {x y : AVal} {u v : V} {a b c e f o value : Expr} {es : List Expr} {pos p p2 q q2 apos cpos tpos pos2 : Pos} {ta tb tc to : TEA} {tl : TLA} {name : Str}
/-! ## calls of what is built in -/
def rAnyC (X : Cx) (g : Value) : List V → Hp → VK → Prop := fun us H Q => ∃ r, CallR X g r ∧ r us H Q
theorem cr_any (g : Value) : CallR X g (rAnyC X g) := fun pins s σ H xs us Q I r ⟨q, h, k⟩ => h pins s σ H xs us Q I r k
theorem rAnyC_imp {g : Value} {us : List V} {Q Q' : VK} (h : rAnyC X g us H Q) (k : ∀ w H', Q w H' → Q' w H') : rAnyC X g us H Q' := by
  obtain ⟨r, h1, h2⟩ := h
  exact ⟨fun us H K => ∃ K', (∀ w H', K' w H' → K w H') ∧ r us H K', fun pins s σ H xs us Q I rx ⟨K', k1, k2⟩ => thn (h1 pins s σ H xs us K' I rx k2) fun z s' ⟨w, H', I', rz, qz⟩ => ⟨w, H', I', rz, k1 w H' qz⟩, _, k, h2⟩
def CalA (X : Cx) (B : Bs) (g : Value) (rr : List AVal → TEA) : Prop := ∀ ad F H s σ xs us Q, Rl B ad F H s σ → Paired (VOk ad F) xs us → rr xs s Q → rAnyC X g us H (Post B ad F σ Q)
def CalN (X : Cx) (B : Bs) (g : Value) (rr : List AVal → TNA) : Prop := ∀ ad F H s σ xs us Q, Rl B ad F H s σ → Paired (VOk ad F) xs us → rr xs s Q → rAnyC X g us H (PostN B ad F σ Q)
def bltA (rr : List AVal → TEA) (tl : TLA) : TEA := fun s Q => tl s fun xs s1 => rr xs s1 Q
def bltN (rr : List AVal → TNA) (tl : TLA) : TNA := fun s Q => tl s fun xs s1 => rr xs s1 Q
theorem ea_blt {id : String} {rr : List AVal → TEA} (hc : CalA X B (.builtin id) rr) (hm : X.mg name = none) (ha : EL X B (e :: es) tl) (hv : bootBuiltins name = some (.builtin id) := by decide +kernel) (hg : Gl X name := by rfl) (n : Nm name := by exact ⟨by decide, by decide⟩) (l : Pl X e es pos := by exact ⟨rfl, rfl⟩) :
    EA X B (.Call (.Name name p) (e :: es) [] pos) (bltA rr tl) := ⟨fun ad F H s σ Q r t => we_of (pe_callB (cr_any _) hg hm hv pa_wa n.hn n.hdb l.he l.hpl) ((ha.run ad F H s σ _ r t).imp fun vs H1 q => by
  obtain ⟨ad1, F1, xs, s1, e1, k1, r1, hvs, hln, q⟩ := q
  exact rAnyC_imp (hc ad1 F1 H1 s1 σ xs vs Q r1 hvs q) fun w H' h => h.up e1 k1)⟩
theorem ea_bty {id : String} {rr : List AVal → TEA} (hc : CalA X B (.type id) rr) (hm : X.mg name = none) (ha : EL X B (e :: es) tl) (hv : bootBuiltins name = some (.type id) := by decide +kernel) (hg : Gl X name := by rfl) (n : Nm name := by exact ⟨by decide, by decide⟩) (l : Pl X e es pos := by exact ⟨rfl, rfl⟩) :
    EA X B (.Call (.Name name p) (e :: es) [] pos) (bltA rr tl) := ⟨fun ad F H s σ Q r t => we_of (pe_callTy (cr_any _) hg hm hv pa_wa n.hn n.hdb l.he l.hpl) ((ha.run ad F H s σ _ r t).imp fun vs H1 q => by
  obtain ⟨ad1, F1, xs, s1, e1, k1, r1, hvs, hln, q⟩ := q
  exact rAnyC_imp (hc ad1 F1 H1 s1 σ xs vs Q r1 hvs q) fun w H' h => h.up e1 k1)⟩
theorem en_blt {id : String} {rr : List AVal → TNA} (hc : CalN X B (.builtin id) rr) (hm : X.mg name = none) (ha : EL X B (e :: es) tl) (hv : bootBuiltins name = some (.builtin id) := by decide +kernel) (hg : Gl X name := by rfl) (n : Nm name := by exact ⟨by decide, by decide⟩) (l : Pl X e es pos := by exact ⟨rfl, rfl⟩) :
    EN X B (.Call (.Name name p) (e :: es) [] pos) (bltN rr tl) := ⟨fun ad F H s σ Q r t => we_of (pe_callB (cr_any _) hg hm hv pa_wa n.hn n.hdb l.he l.hpl) ((ha.run ad F H s σ _ r t).imp fun vs H1 q => by
  obtain ⟨ad1, F1, xs, s1, e1, k1, r1, hvs, hln, q⟩ := q
  exact rAnyC_imp (hc ad1 F1 H1 s1 σ xs vs Q r1 hvs q) fun w H' h => h.up e1 k1)⟩
theorem en_bty {id : String} {rr : List AVal → TNA} (hc : CalN X B (.type id) rr) (hm : X.mg name = none) (ha : EL X B (e :: es) tl) (hv : bootBuiltins name = some (.type id) := by decide +kernel) (hg : Gl X name := by rfl) (n : Nm name := by exact ⟨by decide, by decide⟩) (l : Pl X e es pos := by exact ⟨rfl, rfl⟩) :
    EN X B (.Call (.Name name p) (e :: es) [] pos) (bltN rr tl) := ⟨fun ad F H s σ Q r t => we_of (pe_callTy (cr_any _) hg hm hv pa_wa n.hn n.hdb l.he l.hpl) ((ha.run ad F H s σ _ r t).imp fun vs H1 q => by
  obtain ⟨ad1, F1, xs, s1, e1, k1, r1, hvs, hln, q⟩ := q
  exact rAnyC_imp (hc ad1 F1 H1 s1 σ xs vs Q r1 hvs q) fun w H' h => h.up e1 k1)⟩
def one (k : AVal → Prop) : List AVal → Prop
  | [x] => k x
  | _ => False
theorem one_ok {k : AVal → Prop} {xs : List AVal} {us : List V} (h : one k xs) (hp : Paired (VOk ad F) xs us) : ∃ x u, xs = [x] ∧ us = [u] ∧ VOk ad F x u ∧ k x := by
  match xs, us, hp, h with
  | [x], _, .cons (b := u) h1 .nil, h => exact ⟨x, u, rfl, rfl, h1, h⟩
def lenA (xs : List AVal) : TEA := fun s Q => one (fun x => match view s x with
  | .seq ys => Q (.d (.int ys.length)) s
  | .dct kvs => Q (.d (.int kvs.length)) s
  | .txt z => z.length ≤ sizeLine ∧ Q (.d (.int z.length)) s
  | .oth => False) xs
theorem call_lenR : CallR X (.builtin "len") (fun xs H Q => ∃ a kvs, xs = [V.ref a] ∧ Rd H a (.dK kvs) ∧ Q (.int kvs.length) H) := by
  intro pins s σ H xs us Q I r h
  obtain ⟨a, kvs, rfl, ha, q⟩ := h
  obtain ⟨u, rfl, ru⟩ := vals1 r
  cases ru
  exact d_len I ha fun t s' I' => ⟨.int kvs.length, H, I', ⟨t, rfl⟩, q⟩
theorem c_len : CalA X B (.builtin "len") lenA := fun ad F H s σ xs us Q r hp t => by
  obtain ⟨x, u, rfl, rfl, hx, t⟩ := one_ok t hp
  split at t
  · rename_i ys hy
    obtain ⟨l, vs, rfl, h1, h2⟩ := hx.seq r hy
    have hl := Paired.len h2
    rcases h1 with h1 | h1
    · exact ⟨_, call_len, _, vs.length, rfl, .inl ⟨vs, SqL.of h1, rfl⟩, .here (x := .d (.int ys.length)) r (by rw [hl]; rfl) t⟩
    · exact ⟨_, call_len, _, vs.length, rfl, .inr ⟨vs, SqT.of h1, rfl⟩, .here (x := .d (.int ys.length)) r (by rw [hl]; rfl) t⟩
  · rename_i kvs hk
    obtain ⟨l, es, rfl, h1, h2⟩ := hx.dct r hk
    have hl := Paired.len h2
    exact ⟨_, call_lenR, l, es, rfl, h1, .here (x := .d (.int kvs.length)) r (by rw [hl]; rfl) t⟩
  · rename_i z hz
    have := hx.txt r hz
    subst this
    exact ⟨_, call_len, _, z.length, rfl, ⟨t.1, rfl⟩, .here (x := .d (.int z.length)) r rfl t.2⟩
  · exact t.elim
def listN (xs : List AVal) : TNA := fun s Q => one (fun x => onSome (listOf s x) fun ds => Q (.lst ds) s) xs
theorem c_list : CalN X B (.type "list") listN := fun ad F H s σ xs us Q r hp t => by
  obtain ⟨x, u, rfl, rfl, hx, ds, e, q⟩ := one_ok t hp
  obtain ⟨l, vs, rfl, h1, h2⟩ := hx.list r e
  exact ⟨_, call_list_of, l, vs, rfl, .inl (SqL.of h1), fun p hp => .here (c := .lst ds) r hp ⟨_, upd_same, h2⟩ rfl q⟩
/-- sorted of a dict of texts -/
def txtKeys : List (Key × AVal) → Option (List Str)
  | [] => some []
  | p :: r => match p.1 with
    | .inr x => (txtKeys r).map (x :: ·)
    | .inl _ => none
theorem txtKeys_ok : ∀ {kvs : List (Key × AVal)} {es : List (Key × V)} {ks : List Str}, txtKeys kvs = some ks → KrOk ad F kvs es → es.map (·.1) = ks.map Sum.inr
  | [], _, ks, h, .nil => by cases h; rfl
  | p :: r, _, ks, h, .cons (b := q) hq t => by
    have h' : (match p.1 with | .inr x => (txtKeys r).map (x :: ·) | .inl _ => none) = some ks := h
    split at h'
    · rename_i x hx
      cases hr : txtKeys r with
      | none => rw [hr] at h'; cases h'
      | some ys =>
        rw [hr] at h'
        cases h'
        show q.1 :: _ = Sum.inr x :: _
        rw [txtKeys_ok hr t, ← hq.1, hx]
    · cases h'
def sortedN (xs : List AVal) : TNA := fun s Q => one (fun x => match view s x with
  | .dct kvs => onSome (txtKeys kvs) fun ks => ks.length < 64 ∧ Q (.lst ((srt ks).map .str)) s
  | _ => onSome (listOf s x) fun ds => onSome (srtD ds) fun es => Q (.lst es) s) xs
theorem c_sorted (hc : X.calm = true) : CalN X B (.builtin "sorted") sortedN := fun ad F H s σ xs us Q r hp t => by
  obtain ⟨x, u, rfl, rfl, hx, t⟩ := one_ok t hp
  split at t
  · rename_i kvs hk
    obtain ⟨ks, e, hl, q⟩ := t
    obtain ⟨l, es, rfl, h1, h2⟩ := hx.dct r hk
    refine ⟨_, call_sortedD hc, l, es, ks, rfl, h1, txtKeys_ok e h2, hl, fun ys p hp hs hn => ?_⟩
    have := srt_eq hp hs
    subst this
    exact .here (c := .lst ((srt ks).map .str)) r hn ⟨_, upd_same, daAll_strs _⟩ rfl q
  · obtain ⟨ds, e, es, e2, q⟩ := t
    obtain ⟨l, vs, rfl, h1, h2⟩ := hx.list r e
    unfold srtD at e2
    split at e2
    · rename_i ss hs
      cases e2
      have := strs?_of hs
      subst this
      obtain rfl := h2.strs
      exact ⟨_, cr_sortedSA, l, ss, rfl, SqL.of h1, fun p hp => .here (c := .lst ((srt ss).map .str)) r hp ⟨_, upd_same, daAll_strs _⟩ rfl q⟩
    · rename_i hs
      cases hi : ints? ds with
      | none => rw [hi] at e2; cases e2
      | some ns =>
        rw [hi] at e2
        cases e2
        have := ints?_of hi
        subst this
        obtain rfl := h2.ints
        refine ⟨_, cr_sortedI, l, ns, rfl, SqL.of h1, fun ns' p hp hs hn => ?_⟩
        have := ints_unique (hp.trans (srtI_perm ns).symm) hs (srtI_sorted ns)
        subst this
        exact .here (c := .lst ((srtI ns).map .int)) r hn ⟨_, upd_same, daAll_ints _⟩ rfl q
/-- sorted(set(..)) of texts -/
def ssetN (ta : TEA) : TNA := fun s Q => ta s fun x s1 => onSome (listOf s1 x) fun ds => onSome (strs? ds) fun xs => xs.length ≤ 4000 ∧ Q (.lst ((kset xs).map .str)) s1
def sumA (xs : List AVal) : TEA := fun s Q => one (fun x => onSome (listOf s x) fun ds => onSome (ints? ds) fun ns => Q (.d (.int ns.sum)) s) xs
def two (k : AVal → AVal → Prop) : List AVal → Prop
  | [x, y] => k x y
  | _ => False
theorem two_ok {k : AVal → AVal → Prop} {xs : List AVal} {us : List V} (h : two k xs) (hp : Paired (VOk ad F) xs us) : ∃ x y u v, xs = [x, y] ∧ us = [u, v] ∧ VOk ad F x u ∧ VOk ad F y v ∧ k x y := by
  match xs, us, hp, h with
  | [x, y], _, .cons (b := u) h1 (.cons (b := v) h2 .nil), h => exact ⟨x, y, u, v, rfl, rfl, h1, h2, h⟩
def minA (xs : List AVal) : TEA := fun s Q => two (fun x y => onSome x.int? fun i => onSome y.int? fun j => Q (.d (.int (min i j))) s) xs
def maxA (xs : List AVal) : TEA := fun s Q => two (fun x y => onSome x.int? fun i => onSome y.int? fun j => Q (.d (.int (max i j))) s) xs
theorem c_min (hc : X.calm = true) : CalA X B (.builtin "min") minA := fun ad F H s σ xs us Q r hp t => by
  obtain ⟨x, y, u, v, rfl, rfl, hx, hy, i, ei, j, ej, q⟩ := two_ok t hp
  have e1 := AVal.int?_of ei
  have e2 := AVal.int?_of ej
  subst e1; subst e2
  obtain rfl : u = .int i := hx
  obtain rfl : v = .int j := hy
  refine ⟨_, call_min2 hc, i, j, rfl, .here (x := .d (.int (min i j))) r ?_ q⟩
  show V.int _ = V.int _
  congr 1
  split <;> omega
theorem c_max (hc : X.calm = true) : CalA X B (.builtin "max") maxA := fun ad F H s σ xs us Q r hp t => by
  obtain ⟨x, y, u, v, rfl, rfl, hx, hy, i, ei, j, ej, q⟩ := two_ok t hp
  have e1 := AVal.int?_of ei
  have e2 := AVal.int?_of ej
  subst e1; subst e2
  obtain rfl : u = .int i := hx
  obtain rfl : v = .int j := hy
  refine ⟨_, call_max2 hc, i, j, rfl, .here (x := .d (.int (max i j))) r ?_ q⟩
  show V.int _ = V.int _
  congr 1
  split <;> omega
def intA (xs : List AVal) : TEA := fun s Q => one (fun x => match x with
  | .d (.int i) => Q (.d (.int i)) s
  | .d (.bool b) => Q (.d (.int (if b then 1 else 0))) s
  | _ => False) xs
theorem c_int : CalA X B (.type "int") intA := fun ad F H s σ xs us Q r hp t => by
  obtain ⟨x, u, rfl, rfl, hx, t⟩ := one_ok t hp
  cases x with
  | r n => exact t.elim
  | s _ _ => exact t.elim
  | a _ _ _ => exact t.elim
  | d y =>
    cases y with
    | int i =>
      obtain rfl : u = .int i := hx
      exact ⟨_, call_int1, .inl ⟨i, rfl, .here (x := .d (.int i)) r rfl t⟩⟩
    | bool b =>
      obtain rfl : u = .bl b := hx
      exact ⟨_, call_int1, .inr ⟨b, rfl, .here (x := .d (.int (if b then 1 else 0))) r rfl t⟩⟩
    | _ => exact t.elim
/-! ## isinstance -/
def kdTy : Kd → Option String
  | .lst => some "list"
  | .tup => some "tuple"
  | .dct _ => some "dict"
  | .dctT _ => none
  | .obj _ _ _ => none
theorem kdTy_ok {k : Kd} {q : Addr} {vs : List V} {tn : String} (e : kdTy k = some tn) (h : H q = some (k.ho vs)) : TyX X.K H (.ref q) (.type tn) := by
  cases k with
  | lst => cases e; exact .base (.lst h)
  | tup => cases e; exact .base (.tup h)
  | dct ks => cases e; exact .base (.dK h)
  | dctT ks => cases e
  | obj _ _ _ => cases e
def nodeK (s : AS) (x : AVal) : Option Kd := (nodeAt s x).map fun p => p.2.2.1
theorem nodeK_ok {k : Kd} (r : Rl B ad F H s σ) (h : VOk ad F x u) (e : nodeK s x = some k) : ∃ q vs, u = .ref q ∧ H q = some (k.ho vs) := by
  unfold nodeK at e
  cases hn : nodeAt s x with
  | none => rw [hn] at e; cases e
  | some p =>
    obtain ⟨m, pt', k', q, ys⟩ := p
    rw [hn] at e
    cases e
    obtain ⟨t, p', vs, N⟩ := nodeAt_ok r h hn
    exact ⟨q, vs, N.val, N.ho⟩
def tyD (d : PyData) : Option String := if noEx d = true then some (tyName d) else none
theorem tyD_ok {d : PyData} {tn : String} {F : Hp} {K : PySem.W.Frag} {v : V} (e : tyD d = some tn) (h : Da F d v) : TyX K F v (.type tn) := by
  unfold tyD at e
  split at e
  · rename_i n; cases e; exact da_ty h n
  · cases e
def tyOf (s : AS) : AVal → Option String
  | .d x => tyD x
  | .r n => match s.cs[n]? with
    | some (.lst _) => some "list"
    | some (.nl _) => some "list"
    | some (.nt _) => some "tuple"
    | some (.dK _) => some "dict"
    | some (.nd _) => some "dict"
    | some (.fz x) => tyD x
    | some (.tr (.nd k _ _)) => kdTy k
    | _ => none
  | .s _ _ => none
  | .a p n pt => (nodeK s (.a p n pt)).bind kdTy
theorem tyOf_ok {tn : String} (r : Rl B ad F H s σ) (h : VOk ad F x u) (e : tyOf s x = some tn) : TyX X.K H u (.type tn) := by
  cases x with
  | s _ _ => cases e
  | d y => exact tyD_ok e (Da.mono r.fh h)
  | r n =>
    obtain ⟨a, h1, rfl⟩ := h
    simp only [tyOf] at e
    split at e
    · rename_i ds hc; cases e; obtain ⟨_, _, vs, h2, _⟩ := r.cel n a _ h1 hc; exact .base (.lst h2)
    · rename_i ds hc; cases e; obtain ⟨_, _, vs, h2, _⟩ := r.cel n a _ h1 hc; exact .base (.lst h2)
    · rename_i ds hc; cases e; obtain ⟨_, _, vs, h2, _⟩ := r.cel n a _ h1 hc; exact .base (.tup h2)
    · rename_i ds hc; cases e; obtain ⟨_, _, vs, h2, _⟩ := r.cel n a _ h1 hc; exact .base (.dK h2)
    · rename_i ds hc; cases e; obtain ⟨_, _, vs, h2, _⟩ := r.cel n a _ h1 hc; exact .base (.dK h2)
    · rename_i y hc; obtain ⟨_, _, h4⟩ := r.cel n a _ h1 hc; exact tyD_ok e (Da.mono (d := y) r.fh h4)
    · rename_i k q ys hc
      obtain ⟨_, _, h2, h3⟩ := r.cel n a _ h1 hc
      cases h2
      obtain ⟨_, vs, h4, _⟩ := h3.node
      exact kdTy_ok e h4
    · cases e
  | a p n pt =>
    have e' : (nodeK s (.a p n pt)).bind kdTy = some tn := e
    cases hk : nodeK s (.a p n pt) with
    | none => rw [hk] at e'; cases e'
    | some k =>
      rw [hk] at e'
      obtain ⟨q, vs, rfl, h1⟩ := nodeK_ok r h hk
      exact kdTy_ok e' h1
def isiT (tn : String) (ta : TEA) : TEA := fun s Q => ta s fun x s1 => onSome (tyOf s1 x) fun t => onSome (kitB t tn) fun b => Q (.d (.bool b)) s1
theorem ea_isi {T : Str} {tn : String} {q1 q2 : Pos} (hm : X.mg "isinstance" = none) (hmT : X.mg T = none) (ha : EA X B e ta) (hv : bootBuiltins T = some (.type tn) := by decide +kernel) (hg : Gl X "isinstance" := by rfl) (hgT : Gl X T := by rfl) (n : Nm T := by exact ⟨by decide, by decide⟩)
    (l : Pl X e [.Name T pos] q2 := by exact ⟨rfl, rfl⟩) (l2 : starEach [.Name T pos] X.env = [(false, eval (.Name T pos) X.env)] := by rfl) : EA X B (.Call (.Name "isinstance" q1) [e, .Name T pos] [] q2) (isiT tn ta) := ⟨fun ad F H s σ Q r t =>
  we_of (pe_callB call_isi hg hm (by decide +kernel) (pa_cons pe_we (pa_cons (pe_bltn (v := .ty tn) hgT hmT hv rfl n.hn n.hdb) pa_nil l2) l.he) (by decide) (by decide) l.he l.hpl) ((ha.run ad F H s σ _ r t).imp fun v H1 q => by
    obtain ⟨ad1, F1, x, s1, e1, k1, r1, hv2, t, et, b, eb, q⟩ := q
    exact ⟨v, .ty tn, .type t, .type tn, b, rfl, .ty tn, tyOf_ok r1 hv2 et, kit_ty eb, (Post.here (x := .d (.bool b)) r1 rfl q).up e1 k1⟩)⟩
/-! ## methods -/
def rAnyM (X : Cx) (id : String) : V → List V → Hp → VK → Prop := fun u us H Q => ∃ r, MtR X id r ∧ r u us H Q
theorem mt_any (id : String) : MtR X id (rAnyM X id) := fun pins s σ H x xs v us Q I rx r ⟨q, h, k⟩ => h pins s σ H x xs v us Q I rx r k
theorem rAnyM_imp {id : String} {us : List V} {Q Q' : VK} (h : rAnyM X id u us H Q) (k : ∀ w H', Q w H' → Q' w H') : rAnyM X id u us H Q' := by
  obtain ⟨r, h1, h2⟩ := h
  exact ⟨fun u us H K => ∃ K', (∀ w H', K' w H' → K w H') ∧ r u us H K', fun pins s σ H x xs v us Q I rx rxs ⟨K', k1, k2⟩ => thn (h1 pins s σ H x xs v us K' I rx rxs k2) fun z s' ⟨w, H', I', rz, qz⟩ => ⟨w, H', I', rz, k1 w H' qz⟩, _, k, h2⟩
def MtA (X : Cx) (B : Bs) (id : String) (rr : AVal → List AVal → TEA) : Prop := ∀ ad F H s σ x xs u us Q, Rl B ad F H s σ → VOk ad F x u → Paired (VOk ad F) xs us → rr x xs s Q → rAnyM X id u us H (Post B ad F σ Q)
def isLst (s : AS) : AVal → Bool
  | .d (.list _) => true
  | .r n => match s.cs[n]? with
    | some (.lst _) => true
    | some (.nl _) => true
    | some (.fz (.list _)) => true
    | some (.tr (.nd .lst _ _)) => true
    | _ => false
  | .a p n pt => match nodeK s (.a p n pt) with
    | some .lst => true
    | _ => false
  | _ => false
theorem isLst_ok (r : Rl B ad F H s σ) (h : VOk ad F x u) (e : isLst s x = true) : tyV X.K "list" u H := by
  unfold isLst at e
  split at e
  · obtain ⟨a, xs, rfl, h1, _⟩ := h; exact .inl ⟨rfl, xs, SqL.of (r.fh _ _ h1)⟩
  · rename_i n
    obtain ⟨a, h1, rfl⟩ := h
    split at e
    · rename_i ds hc; obtain ⟨_, _, vs, h2, _⟩ := r.cel n a _ h1 hc; exact .inl ⟨rfl, vs, SqL.of h2⟩
    · rename_i ds hc; obtain ⟨_, _, vs, h2, _⟩ := r.cel n a _ h1 hc; exact .inl ⟨rfl, vs, SqL.of h2⟩
    · rename_i ds hc
      obtain ⟨_, _, h4⟩ := r.cel n a _ h1 hc
      obtain ⟨a', xs, e', h2, h3⟩ := h4
      cases e'
      exact .inl ⟨rfl, xs, SqL.of (r.fh _ _ h2)⟩
    · rename_i q ys hc
      obtain ⟨_, _, h2, h3⟩ := r.cel n a _ h1 hc
      cases h2
      obtain ⟨_, vs, h4, _⟩ := h3.node
      exact .inl ⟨rfl, vs, SqL.of h4⟩
    · cases e
  · split at e
    · rename_i hk
      obtain ⟨q, vs, rfl, h1⟩ := nodeK_ok r h hk
      exact .inl ⟨rfl, vs, SqL.of h1⟩
    · cases e
  · cases e
def mtL (rr : AVal → List AVal → TEA) (to : TEA) (tl : TLA) : TEA := fun s Q => to s fun x s1 => isLst s1 x = true ∧ tl s1 fun xs s2 => rr x xs s2 Q
theorem ea_mtL {id : String} {rr : AVal → List AVal → TEA} (slot : Slot "list" name id) (hty : typeOf (.builtin id) = pure (.type "method_descriptor")) (hm : MtA X B id rr) (ho : EA X B o to) (ha : EL X B (e :: es) tl) (bm : Bm X o name e es apos cpos := by exact ⟨rfl, rfl, rfl, rfl, rfl⟩) :
    EA X B (.Call (.Attribute o name apos) (e :: es) [] cpos) (mtL rr to tl) := ⟨fun ad F H s σ Q r t =>
  we_of (pe_bm PySem.F.plainAttrs_list slot hty (mt_any id) pe_we pa_wa bm.hbase bm.hfew bm.hline bm.hs bm.hplain) ((ho.run ad F H s σ _ r t).imp fun u H1 q => by
    obtain ⟨ad1, F1, x, s1, e1, k1, r1, hu, hl, q⟩ := q
    refine ⟨isLst_ok r1 hu hl, (ha.run ad1 F1 H1 s1 σ _ r1 q).imp fun us H2 q => ?_⟩
    obtain ⟨ad2, F2, xs, s2, e2, k2, r2, hus, hln, q⟩ := q
    exact rAnyM_imp (hm ad2 F2 H2 s2 σ x xs u us Q r2 (hu.mono e2 k2) hus q) fun w H' h => h.up (e1.trans e2) (k1.trans k2))⟩
def mtL0 (rr : AVal → List AVal → TEA) (to : TEA) : TEA := fun s Q => to s fun x s1 => isLst s1 x = true ∧ rr x [] s1 Q
theorem ea_mtL0 {id : String} {rr : AVal → List AVal → TEA} (slot : Slot "list" name id) (hty : typeOf (.builtin id) = pure (.type "method_descriptor")) (hm : MtA X B id rr) (ho : EA X B o to) (hbase : attributeBase o name X.env (eval o X.env) = eval o X.env := by rfl) (hline : (apos.endLine == cpos.line) = true := by rfl) :
    EA X B (.Call (.Attribute o name apos) [] [] cpos) (mtL0 rr to) := ⟨fun ad F H s σ Q r t =>
  we_of (pe_bm0 PySem.F.plainAttrs_list slot hty (mt_any id) pe_we hbase hline) ((ho.run ad F H s σ _ r t).imp fun u H1 q => by
    obtain ⟨ad1, F1, x, s1, e1, k1, r1, hu, hl, q⟩ := q
    exact ⟨isLst_ok r1 hu hl, rAnyM_imp (hm ad1 F1 H1 s1 σ x [] u [] Q r1 hu .nil q) fun w H' h => h.up e1 k1⟩)⟩
/-- the cell of a list of our own -/
def onLst (s : AS) (x : AVal) (k : Nat → List PyData → Prop) : Prop := match x with
  | .r n => match s.cs[n]? with
    | some (.lst ds) => k n ds
    | _ => False
  | _ => False
theorem onLst_ok {k : Nat → List PyData → Prop} (r : Rl B ad F H s σ) (hx : VOk ad F x u) (h : onLst s x k) : ∃ n ds p vs, s.cs[n]? = some (.lst ds) ∧ ad[n]? = some p ∧ u = .ref p ∧ H p = some (.lst vs) ∧ DaAll F ds vs ∧ k n ds := by
  unfold onLst at h
  split at h
  · rename_i n
    split at h
    · rename_i ds hc
      obtain ⟨p, h1, rfl⟩ := hx
      obtain ⟨_, _, vs, h2, h3⟩ := r.cel n p _ h1 hc
      exact ⟨n, ds, p, vs, hc, h1, rfl, h2, h3, h⟩
    · exact h.elim
  · exact h.elim
theorem Post.putL {Q : VQ} {d : PyData} {n : Nat} {ds es : List PyData} {q : Addr} {vs : List V} (r : Rl B ad F H s σ) (hc : s.cs[n]? = some (.lst ds)) (hp : ad[n]? = some q) (hd : DaAll F es vs) (hv : Da F d v) (k : Q (.d d) ⟨s.sl, s.cs.set n (.lst es)⟩) : Post B ad F σ Q v (upd H q (.lst vs)) :=
  .here (x := .d d) (r.put (c := .lst es) hp hc rfl ⟨vs, upd_same, hd⟩) hv k
def appendA (x : AVal) (xs : List AVal) : TEA := fun s Q => one (fun y => onLst s x fun n ds => onSome y.data? fun d => ds.length < sizeLine ∧ Q (.d .none) ⟨s.sl, s.cs.set n (.lst (ds ++ [d]))⟩) xs
theorem m_append : MtA X B "list.append" appendA := fun ad F H s σ x xs u us Q r hx hp t => by
  obtain ⟨y, w, rfl, rfl, hy, t⟩ := one_ok t hp
  obtain ⟨n, ds, p, vs, hc, h1, rfl, h2, h3, d, ed, hz, q⟩ := onLst_ok r hx t
  have := AVal.data?_of ed
  subst this
  exact ⟨_, mt_append, p, vs, w, rfl, rfl, h2, by rw [h3.length]; exact hz, .putL (d := .none) r hc h1 (h3.snoc hy) rfl q⟩
def extendA (x : AVal) (xs : List AVal) : TEA := fun s Q => one (fun y => onLst s x fun n ds => onSome (listOf s y) fun es => ds.length + es.length ≤ sizeLine ∧ Q (.d .none) ⟨s.sl, s.cs.set n (.lst (ds ++ es))⟩) xs
theorem m_extend : MtA X B "list.extend" extendA := fun ad F H s σ x xs u us Q r hx hp t => by
  obtain ⟨y, w, rfl, rfl, hy, t⟩ := one_ok t hp
  obtain ⟨n, ds, p, vs, hc, h1, rfl, h2, h3, es, ee, hz, q⟩ := onLst_ok r hx t
  obtain ⟨m, ws, rfl, h4, h5⟩ := hy.list r ee
  exact ⟨_, mt_extend, p, m, vs, ws, rfl, rfl, h2, h4, by rw [h3.length, h5.length]; exact hz, .putL (d := .none) r hc h1 (h3.append h5) rfl q⟩
def removeA (x : AVal) (xs : List AVal) : TEA := fun s Q => one (fun y => onLst s x fun n ds => onSome (strs? ds) fun ss => onSome y.str? fun z => z ∈ ss ∧ Q (.d .none) ⟨s.sl, s.cs.set n (.lst ((ss.erase z).map .str))⟩) xs
theorem m_remove : MtA X B "list.remove" removeA := fun ad F H s σ x xs u us Q r hx hp t => by
  obtain ⟨y, w, rfl, rfl, hy, t⟩ := one_ok t hp
  obtain ⟨n, ds, p, vs, hc, h1, rfl, h2, h3, ss, es, z, ez, hz, q⟩ := onLst_ok r hx t
  have := AVal.str?_of ez
  subst this
  have := strs?_of es
  subst this
  obtain rfl := h3.strs
  obtain rfl : w = .str z := hy
  exact ⟨_, mt_removeS, p, ss, z, rfl, rfl, h2, hz, .putL (d := .none) r hc h1 (daAll_strs _) rfl q⟩
def popA (x : AVal) (xs : List AVal) : TEA := fun s Q => onLst s x fun n ds => onSome ds.getLast? fun d => Q (.d d) ⟨s.sl, s.cs.set n (.lst ds.dropLast)⟩
theorem DaAll.dropLast {ds : List PyData} {vs : List V} (h : DaAll F ds vs) : DaAll F ds.dropLast vs.dropLast := by
  rw [List.dropLast_eq_take, List.dropLast_eq_take, h.length]
  exact h.take _
theorem m_pop : MtA X B "list.pop" (fun x xs s Q => xs = [] ∧ popA x xs s Q) := fun ad F H s σ x xs u us Q r hx hp t => by
  obtain ⟨rfl, t⟩ := t
  cases hp
  obtain ⟨n, ds, p, vs, hc, h1, rfl, h2, h3, d, ed, q⟩ := onLst_ok r hx t
  rw [List.getLast?_eq_getElem?] at ed
  obtain ⟨w, hw, hd⟩ := h3.get ed
  exact ⟨_, mt_pop, p, vs, w, rfl, rfl, h2, by rw [h3.length]; exact hw, .putL (d := d) r hc h1 h3.dropLast hd q⟩
def popAtA (x : AVal) (xs : List AVal) : TEA := fun s Q => one (fun y => onLst s x fun n ds => onSome y.int? fun i => (0 ≤ i ∧ i < 2 ^ 63) ∧ onSome (ds[i.toNat]?) fun d => Q (.d d) ⟨s.sl, s.cs.set n (.lst (ds.eraseIdx i.toNat))⟩) xs
theorem DaAll.eraseIdx : ∀ {ds : List PyData} {vs : List V} (k : Nat), DaAll F ds vs → DaAll F (ds.eraseIdx k) (vs.eraseIdx k)
  | [], _, k, h => by obtain rfl := (show _ = [] from h); exact h
  | d :: ds, _, 0, h => by
    obtain ⟨v, r, rfl, h1, h2⟩ := (show ∃ v r, _ = v :: r ∧ Da F d v ∧ DaAll F ds r from h)
    exact h2
  | d :: ds, _, k + 1, h => by
    obtain ⟨v, r, rfl, h1, h2⟩ := (show ∃ v r, _ = v :: r ∧ Da F d v ∧ DaAll F ds r from h)
    exact daAll_cons h1 (DaAll.eraseIdx k h2)
def clearA (x : AVal) (xs : List AVal) : TEA := fun s Q => onLst s x fun n ds => Q (.d .none) ⟨s.sl, s.cs.set n (.lst [])⟩
def countA (x : AVal) (xs : List AVal) : TEA := fun s Q => one (fun y => onSome (listOf s x) fun ds => onSome (strs? ds) fun ss => onSome y.str? fun z => Q (.d (.int (ss.count z : Nat))) s) xs
theorem m_count : MtA X B "list.count" countA := fun ad F H s σ x xs u us Q r hx hp t => by
  obtain ⟨y, w, rfl, rfl, hy, ds, ed, ss, es, z, ez, q⟩ := one_ok t hp
  have := AVal.str?_of ez
  subst this
  obtain ⟨l, vs, rfl, h1, h2⟩ := hx.list r ed
  have := strs?_of es
  subst this
  obtain rfl := h2.strs
  obtain rfl : w = .str z := hy
  exact ⟨_, mt_countS, l, ss, z, rfl, rfl, SqL.of h1, .here (x := .d (.int (ss.count z : Nat))) r rfl q⟩
/-! ## dicts -/
def newD : TNA := fun s Q => Q (.dK []) s
theorem en_dict : EN X B (.Dict [] [] pos) newD := ⟨fun ad F H s σ Q r t => we_of pe_dnewK fun p hp => .here (c := .dK []) r hp ⟨[], upd_same, .nil⟩ rfl t⟩
theorem isD_ok {kvs : List (Key × AVal)} (r : Rl B ad F H s σ) (h : VOk ad F x u) (e : view s x = .dct kvs) : ∃ l es, u = .ref l ∧ IsD H l ∧ Rd H l (.dK es) ∧ KrOk ad F kvs es := by
  obtain ⟨l, es, rfl, h1, h2⟩ := h.dct r e
  exact ⟨l, es, rfl, .inl ⟨es, h1⟩, h1, h2⟩
def isDct (s : AS) (x : AVal) : Prop := match view s x with | .dct _ => True | _ => False
def getA2 (to te tf : TEA) : TEA := fun s Q => to s fun x s1 => isDct s1 x ∧ te s1 fun y s2 => tf s2 fun z s3 => match view s3 x with
  | .dct kvs => onSome y.key? fun k => Q ((getA kvs k).getD z) s3
  | _ => False
theorem ea_get2 (hu : X.A.units + 64 < cLine) (ho : EA X B o to) (he : EA X B e ta) (hf : EA X B f tb) (m : M2 X o "get" apos e f cpos := by exact ⟨rfl, rfl, rfl, rfl⟩) : EA X B (.Call (.Attribute o "get" apos) [e, f] [] cpos) (getA2 to ta tb) := ⟨fun ad F H s σ Q r t =>
  we_of (pe_dget2 (by omega) pe_we pe_we pe_we m) ((ho.run ad F H s σ _ r t).imp fun u H1 q => by
    obtain ⟨ad1, F1, x, s1, e1, k1, r1, hu1, hd, q⟩ := q
    unfold isDct at hd
    split at hd
    · rename_i kvs hk
      obtain ⟨l, es, rfl, hi, _, _⟩ := isD_ok r1 hu1 hk
      refine ⟨l, rfl, hi, (he.run ad1 F1 H1 s1 σ _ r1 q).imp fun w H2 q => ?_⟩
      obtain ⟨ad2, F2, y, s2, e2, k2, r2, hw, q⟩ := q
      refine (hf.run ad2 F2 H2 s2 σ _ r2 q).imp fun z H3 q => ?_
      obtain ⟨ad3, F3, zz, s3, e3, k3, r3, hz, q⟩ := q
      split at q
      · rename_i kvs3 hk3
        obtain ⟨k, ek, q⟩ := q
        obtain ⟨l2, es2, e4, _, h4, h5⟩ := isD_ok r3 (hu1.mono (e2.trans e3) (k2.trans k3)) hk3
        cases e4
        have := AVal.key?_ok ek (hw.mono e3 k3)
        subst this
        refine ⟨valV es2 k, .inl ⟨es2, k, h4, rfl, rfl⟩, ?_⟩
        have hg := h5.get (k := k)
        refine ⟨ad3, F3, _, s3, e1.trans (e2.trans e3), k1.trans (k2.trans k3), r3, ?_, q⟩
        cases hga : getA kvs3 k with
        | none => rw [hga] at hg; rw [hg]; exact hz
        | some g => rw [hga] at hg; obtain ⟨v', hv', hvo⟩ := hg; rw [hv']; exact hvo
      · exact q.elim
    · exact hd.elim)⟩
def onDct (s : AS) (x : AVal) (k : Nat → List (Key × PyData) → Prop) : Prop := match x with
  | .r n => match s.cs[n]? with
    | some (.dK ds) => k n ds
    | _ => False
  | _ => False
theorem onDct_ok {k : Nat → List (Key × PyData) → Prop} (r : Rl B ad F H s σ) (hx : VOk ad F x u) (h : onDct s x k) : ∃ n ds p es, s.cs[n]? = some (.dK ds) ∧ ad[n]? = some p ∧ u = .ref p ∧ H p = some (.dK es) ∧ KvOk F ds es ∧ k n ds := by
  unfold onDct at h
  split at h
  · rename_i n
    split at h
    · rename_i ds hc
      obtain ⟨p, h1, rfl⟩ := hx
      obtain ⟨_, _, vs, h2, h3⟩ := r.cel n p _ h1 hc
      exact ⟨n, ds, p, vs, hc, h1, rfl, h2, h3, h⟩
    · exact h.elim
  · exact h.elim
/-- d[k] = v -/
def putS (tv to ti : TEA) : TSA := fun D s => tv s fun v s1 => to s1 fun x s2 => ti s2 fun y s3 => onDct s3 x fun n ds => onSome y.key? fun k => onSome v.data? fun d => ds.length < sizeLine ∧ D.nx ⟨s3.sl, s3.cs.set n (.dK (putA ds k d))⟩
theorem Paired.length_eq {kvs : List (Key × PyData)} {es : List (Key × V)} (h : KvOk F kvs es) : kvs.length = es.length := Paired.len h
theorem sa_put (hu : X.A.units + 64 < cLine) (hv : EA X B value tc) (ho : EA X B o ta) (hi : EA X B e tb) (hs : swapsWith value (some (.Subscript o e tpos)) pos.line X.env = pure false := by rfl) : SA X B (.Assign [.Subscript o e tpos] value pos) (putS tc ta tb) := ⟨fun D s h ad F H σ r =>
  ws_of (ps_dput (by omega) pe_we pe_we pe_we hs) ((hv.run ad F H s σ _ r h).imp fun w H1 q => by
    obtain ⟨ad1, F1, v, s1, e1, k1, r1, hv1, q⟩ := q
    refine (ho.run ad1 F1 H1 s1 σ _ r1 q).imp fun u H2 q => ?_
    obtain ⟨ad2, F2, x, s2, e2, k2, r2, hx, q⟩ := q
    refine (hi.run ad2 F2 H2 s2 σ _ r2 q).imp fun z H3 q => ?_
    obtain ⟨ad3, F3, y, s3, e3, k3, r3, hy, q⟩ := q
    obtain ⟨n, ds, p, es, hc, h1, rfl, h2, h3, k, ek, d, ed, hl, qq⟩ := onDct_ok r3 (hx.mono e3 k3) q
    have := AVal.data?_of ed
    subst this
    have := AVal.key?_ok ek hy
    subst this
    have hlen := Paired.length_eq h3
    exact ⟨p, _, rfl, DPut.k h2 (by omega), ad3, F3, _, r3.put (c := .dK (putA ds k d)) h1 hc rfl ⟨_, upd_same, put_pair (R := Da F3) h3 (Da.mono (k2.trans k3) hv1)⟩, qq⟩)⟩
/-- d[k] -= e, d[k] += e of ints -/
def augS (g : Int → Int → Int) (to ti tv : TEA) : TSA := fun D s => to s fun x s1 => ti s1 fun y s2 => onSome y.key? fun k => onDct s2 x fun _ ds0 => onSome (getA ds0 k) fun d => onSome (AVal.d d).int? fun i => tv s2 fun v s3 => onSome v.int? fun j => onDct s3 x fun n ds => ds.length < sizeLine ∧ D.nx ⟨s3.sl, s3.cs.set n (.dK (putA ds k (.int (g i j))))⟩
theorem getA_dkv {kvs : List (Key × PyData)} {es : List (Key × V)} {k : Key} {d : PyData} (h : KvOk F kvs es) (e : getA kvs k = some d) : ∃ v, valV es k = some v ∧ Da F d v := by
  have hk := (krOk_dkv (ad := []) h).get (k := k)
  have : getA (dkv kvs) k = some (.d d) := by
    unfold getA dkv at *
    rw [List.find?_map]
    cases hf : kvs.find? (fun kv => decide (kv.1 = k)) with
    | none => rw [hf] at e; cases e
    | some q =>
      rw [hf] at e
      have : q.2 = d := by simpa using e
      have hf' : kvs.find? ((fun kv : Key × AVal => decide (kv.1 = k)) ∘ fun p => (p.1, AVal.d p.2)) = some q := hf
      rw [hf']
      simp [this]
  rw [this] at hk
  exact hk
theorem sa_dsub (hu : X.A.units + 64 < cLine) (ho : EA X B o ta) (hi : EA X B e tb) (hv : EA X B value tc) (haug : ∀ ov iv new, augStore e ov iv new = (do holding [new, ov, iv] (setItem ov iv new); release [new, ov, iv] []; pure .next) := by intros; rfl) : SA X B (.AugAssign (.Subscript o e tpos) .Sub value pos) (augS (fun i j => i - j) ta tb tc) := ⟨fun D s h ad F H σ r =>
  ws_of (ps_daug (by omega) pe_we pe_we pe_we in_sub haug) ((ho.run ad F H s σ _ r h).imp fun u H1 q => by
    obtain ⟨ad1, F1, x, s1, e1, k1, r1, hx, q⟩ := q
    refine (hi.run ad1 F1 H1 s1 σ _ r1 q).imp fun z H2 q => ?_
    obtain ⟨ad2, F2, y, s2, e2, k2, r2, hy, k, ek, q⟩ := q
    obtain ⟨n, ds, p, es, hc, h1, rfl, h2, h3, d, ed, i, ei, q⟩ := onDct_ok r2 (hx.mono e2 k2) q
    have := AVal.key?_ok ek hy
    subst this
    have eI := AVal.int?_of ei
    cases eI
    obtain ⟨w, hw, hd⟩ := getA_dkv h3 ed
    obtain rfl : w = .int i := hd
    refine ⟨p, .int i, rfl, by rw [← hw]; exact DGet.k h2, (hv.run ad2 F2 H2 s2 σ _ r2 q).imp fun w2 H3 q => ?_⟩
    obtain ⟨ad3, F3, v, s3, e3, k3, r3, hv3, j, ej, q⟩ := q
    have := AVal.int?_of ej
    subst this
    obtain rfl : w2 = .int j := hv3
    obtain ⟨n2, ds2, p2, es2, hc2, h12, e4, h22, h32, hl, qq⟩ := onDct_ok r3 ((hx.mono e2 k2).mono e3 k3) q
    cases e4
    have hlen := Paired.length_eq h32
    exact ⟨i, j, rfl, rfl, _, DPut.k h22 (by omega), ad3, F3, _, r3.put (c := .dK (putA ds2 k (.int (i - j)))) h12 hc2 rfl ⟨_, upd_same, put_pair (R := Da F3) h32 (show Da F3 (.int (i - j)) (.int (i - j)) from rfl)⟩, qq⟩)⟩
/-! ## what is walked -/
variable {tg e2 : Expr}
theorem WE.sz {Q : VK} (h : WE X e σ H Q) : WE X e σ H fun v H' => Q v H' ∧ ∀ l vs, H' l = some (.lst vs) → vs.length ≤ sizeLine := fun pins s I => thn (h pins s I) fun u s' ⟨v, H', I', r, k⟩ => ⟨v, H', I', r, k, fun l vs hl => (I'.hok l _ hl).1⟩
theorem WA.sz {Q : List V → Hp → Prop} (h : WA X es σ H Q) : WA X es σ H fun v H' => Q v H' ∧ ∀ l vs, H' l = some (.lst vs) → vs.length ≤ sizeLine := fun pos pins s I => thn (h pos pins s I) fun u s' ⟨v, H', I', r, k⟩ => ⟨v, H', I', r, k, fun l vs hl => (I'.hok l _ hl).1⟩
/-- a list that is told for good -/
def fzList (s : AS) : AVal → Option (List PyData)
  | .d (.list ds) => some ds
  | .r n => match s.cs[n]? with
    | some (.fz (.list ds)) => some ds
    | _ => none
  | _ => none
theorem fzList_ok {ds : List PyData} (r : Rl B ad F H s σ) (h : VOk ad F x u) (e : fzList s x = some ds) : Da F (.list ds) u := by
  unfold fzList at e
  split at e
  · cases e; exact h
  · rename_i n
    obtain ⟨a, h1, rfl⟩ := h
    split at e
    · rename_i ds' hc; cases e; exact (r.cel n a _ h1 hc).2.2
    · cases e
  · cases e
def iterL (ta : TEA) : AS → (List PyData → AS → Prop) → Prop := fun s Q => ta s fun x s1 => onSome (fzList s1 x) fun ds => Q ds s1
theorem walks_list {F2 : Hp} {ds : List PyData} {l : Addr} {vs : List V} (h1 : F2 l = some (.lst vs)) (h2 : DaAll F2 ds vs) {K : PySem.W.Frag} : Walks (Itl K l) F2 ds := Walks0.w fun F3 H3 s1 s2 => ⟨fun i d e => by
  obtain ⟨v, hv, hd⟩ := h2.get e
  exact ⟨⟨vs, v, SqL.of (s2 _ _ (s1 _ _ h1)), hv⟩, fun x H4 y => ⟨y.1, (getV h2 e (y.2 vs (SqL.of (s2 _ _ (s1 _ _ h1))))).mono s1⟩⟩, vs, SqL.of (s2 _ _ (s1 _ _ h1)), by rw [h2.length]; exact Nat.le_refl _⟩
theorem ia_list (ha : EA X B e ta) : IA X B tg e (iterL ta) := ⟨fun ad F H s σ Q R r t k => wi_of (pi_list pe_we) ((WE.sz (ha.run ad F H s σ _ r t)).imp fun u H1 q => by
  obtain ⟨⟨ad1, F1, x, s1, e1, k1, r1, hx, ds, ed, q⟩, hz⟩ := q
  obtain ⟨l, vs, rfl, h1, h2⟩ := fzList_ok r1 hx ed
  have h1' := r1.fh _ _ h1
  exact ⟨l, rfl, ⟨vs, SqL.of h1'⟩, k _ ad1 F1 H1 s1 ds e1 k1 r1 (walks_list h1 h2) (by rw [← h2.length]; exact hz l vs h1') q⟩)⟩
/-- a list of our own, within a comprehension -/
def iterO (ta : TEA) : TIO := fun s Q => ta s fun x s1 => match x with
  | .r n => onSome s1.cs[n]? fun c => match c with
    | .lst ds => Q ds (fun cs => cs[n]? = some (.lst ds)) s1
    | .fz (.list ds) => Q ds (fun _ => True) s1
    | _ => False
  | .d (.list ds) => Q ds (fun _ => True) s1
  | .a p n pt => onSome (leafL (nodeAt s1 (.a p n pt))) fun ds => Q ds (fun cs => leafL (nodeAt ⟨[], cs⟩ (.a p n pt)) = some ds) s1
  | _ => False
theorem io_list (ha : EA X B e ta) : IO X B tg e (iterO ta) := ⟨fun ad F H s σ Q R r t k => wi_of (pi_list pe_we) ((WE.sz (ha.run ad F H s σ _ r t)).imp fun u H1 q => by
  obtain ⟨⟨ad1, F1, x, s1, e1, k1, r1, hx, q⟩, hz⟩ := q
  have fz : ∀ {ds : List PyData}, Da F1 (.list ds) u → Q ds (fun _ => True) s1 → ∃ a, u = .ref a ∧ (∃ xs, SqL X.K H1 a xs) ∧ R (Itl X.K a) H1 := fun {ds} hd q => by
    obtain ⟨l, vs, rfl, h1, h2⟩ := hd
    have h1' := r1.fh _ _ h1
    exact ⟨l, rfl, ⟨vs, SqL.of h1'⟩, k _ ad1 F1 H1 s1 ds _ e1 k1 r1 (fun B3 ad3 F3 H3 s3 σ3 _ k3 r3 _ => walks_list h1 h2 F3 H3 k3 r3.fh) (by rw [← h2.length]; exact hz l vs h1') q⟩
  cases x with
  | s _ _ => exact q.elim
  | a p n pt =>
    obtain ⟨ds, hds, q⟩ := q
    obtain ⟨l, vs, rfl, h1, h2⟩ := leafL_ok r1 hx hds
    have hlp : V.ref l = .ref p := hx
    cases hlp
    refine ⟨p, rfl, ⟨vs, SqL.of h1⟩, k _ ad1 F1 H1 s1 ds _ e1 k1 r1 (fun B3 ad3 F3 H3 s3 σ3 e3 k3 r3 hk => ?_) (by rw [← h2.length]; exact hz p vs h1) q⟩
    obtain ⟨l', ws, hl', g1, g2⟩ := leafL_ok (x := .a p n pt) (v := .ref p) r3 rfl hk
    cases hl'
    exact ⟨fun i d e => by
      obtain ⟨v, hv, hd⟩ := g2.get e
      exact ⟨⟨ws, v, SqL.of g1, hv⟩, fun x H4 y => ⟨F3, by rw [y.1]; exact .refl r3.fh, getV g2 e (y.2 ws (SqL.of g1))⟩⟩, ws, SqL.of g1, by rw [g2.length]; exact Nat.le_refl _⟩
  | d y =>
    cases y with
    | list ds => exact fz hx q
    | _ => exact q.elim
  | r n =>
    obtain ⟨c, hc, q⟩ := q
    obtain ⟨a, ha, rfl⟩ := hx
    obtain ⟨n0, l0, ok⟩ := r1.cel n a c ha hc
    cases c with
    | lst ds =>
      obtain ⟨vs, h1, h2⟩ := ok
      refine ⟨a, rfl, ⟨vs, SqL.of h1⟩, k _ ad1 F1 H1 s1 ds _ e1 k1 r1 (fun B3 ad3 F3 H3 s3 σ3 e3 k3 r3 hk => ?_) (by rw [← h2.length]; exact hz a vs h1) q⟩
      obtain ⟨_, _, ws, g1, g2⟩ := r3.cel n a _ (ext_get e3 ha) hk
      exact ⟨fun i d e => by
        obtain ⟨v, hv, hd⟩ := g2.get e
        exact ⟨⟨ws, v, SqL.of g1, hv⟩, fun x H4 y => ⟨F3, by rw [y.1]; exact .refl r3.fh, getV g2 e (y.2 ws (SqL.of g1))⟩⟩, ws, SqL.of g1, by rw [g2.length]; exact Nat.le_refl _⟩
    | fz y =>
      cases y with
      | list ds => exact fz ok q
      | _ => exact q.elim
    | _ => exact q.elim)⟩
def iterR1 (ta : TEA) : AS → (List PyData → AS → Prop) → Prop := fun s Q => ta s fun x s1 => onSome x.int? fun j => j ≤ 16777216 ∧ Q (intsD 0 j) s1
theorem ia_range1 (hm : X.mg "range" = none) (ha : EA X B e ta) (hg : Gl X "range" := by rfl) (l : Pl X e [] pos := by exact ⟨rfl, rfl⟩) : IA X B tg (.Call (.Name "range" p) [e] [] pos) (iterR1 (fun s Q => ta s fun x s1 => onSome x.int? fun j => -(2 ^ 62) ≤ j ∧ Q x s1)) := ⟨fun ad F H s σ Q R r t k =>
  wi_of (pi_range1 hg hm (pa_cons pe_we pa_nil l.he) (hs := l.he)) ((ha.run ad F H s σ _ r t).imp fun u H1 q => by
    obtain ⟨ad1, F1, x, s1, e1, k1, r1, hx, j0, ej0, hj0, j, ej, hj, q⟩ := q
    have := AVal.int?_of ej
    subst this
    obtain rfl : u = .int j := hx
    cases ej0
    refine ⟨j0, rfl, hj0, by omega, k _ ad1 F1 H1 s1 _ e1 k1 r1 (walks_rng 0 _ (by simp)).w ?_ q⟩
    rw [intsD_length]
    have : sizeLine = 16777216 := by decide
    omega)⟩
def iterR2 (ta tb : TEA) : AS → (List PyData → AS → Prop) → Prop := fun s Q => ta s fun x s1 => tb s1 fun y s2 => onSome x.int? fun i => onSome y.int? fun j => (-(2 ^ 62) ≤ i ∧ i < 2 ^ 62 ∧ -(2 ^ 62) ≤ j ∧ j < 2 ^ 62 ∧ j - i ≤ 16777216) ∧ Q (intsD i j) s2
theorem ia_range2 (hm : X.mg "range" = none) (ha : EA X B e ta) (hb : EA X B e2 tb) (hg : Gl X "range" := by rfl) (l : Pl X e [e2] pos := by exact ⟨rfl, rfl⟩) (l2 : starEach [e2] X.env = [(false, eval e2 X.env)] := by rfl) : IA X B tg (.Call (.Name "range" p) [e, e2] [] pos) (iterR2 ta tb) := ⟨fun ad F H s σ Q R r t k =>
  wi_of (pi_range2 hg hm (pa_cons pe_we (pa_cons pe_we pa_nil l2) l.he) (hs := l.he.trans (by rw [l2])) (hs2 := l2)) ((ha.run ad F H s σ _ r t).imp fun u H1 q => by
    obtain ⟨ad1, F1, x, s1, e1, k1, r1, hx, q⟩ := q
    refine (hb.run ad1 F1 H1 s1 σ _ r1 q).imp fun w H2 q => ?_
    obtain ⟨ad2, F2, y, s2, e2', k2, r2, hy, i, ei, j, ej, ⟨h1, h2, h3, h4, h5⟩, qq⟩ := q
    have ea := AVal.int?_of ei
    have eb := AVal.int?_of ej
    subst ea; subst eb
    obtain rfl : u = .int i := hx
    obtain rfl : w = .int j := hy
    refine ⟨i, j, rfl, ⟨h1, h2, h3, h4⟩, k _ ad2 F2 H2 s2 _ (e1.trans e2') (k1.trans k2) r2 (walks_rng i _ rfl).w ?_ qq⟩
    rw [intsD_length]
    have : sizeLine = 16777216 := by decide
    omega)⟩
def iterE (ta : TEA) : AS → (List PyData → AS → Prop) → Prop := fun s Q => ta s fun x s1 => onSome (fzList s1 x) fun ds => Q (enumsD ds) s1
theorem walks_enum {F2 : Hp} {ds : List PyData} {a : Addr} {xs : List V} (h1 : F2 a = some (.lst xs)) (h2 : DaAll F2 ds xs) {K : PySem.W.Frag} : Walks (Ite K a) F2 (enumsD ds) := fun F3 H3 s1 s2 => ⟨fun i d e => by
    unfold enumsD at e
    rw [List.getElem?_mapIdx] at e
    cases hc : ds[i]? with
    | none => rw [hc] at e; simp at e
    | some d0 =>
      rw [hc] at e
      have e' : PyData.tuple [.int (i : Nat), d0] = d := by simpa using e
      subst e'
      obtain ⟨v, hv, hd⟩ := h2.get hc
      refine ⟨⟨xs, v, SqL.of (s2 _ _ (s1 _ _ h1)), hv⟩, fun x H4 y => ?_⟩
      obtain ⟨T, x0, rfl, nT, rfl, hx⟩ := y
      have hx0 := (getV h2 hc (hx xs (SqL.of (s2 _ _ (s1 _ _ h1))))).mono s1
      exact ⟨upd F3 T (.tup [.int (i : Nat), x0]), (Gr.refl s2).shut nT, T, _, rfl, upd_same, daAll_cons rfl (daAll_cons (hx0.mono (same_upd (s2.free nT))) daAll_nil)⟩, xs, SqL.of (s2 _ _ (s1 _ _ h1)), by simp [enumsD, h2.length]⟩
theorem ia_enum {elts : List Expr} {kk : Nat} {tpos : Pos} (hm : X.mg "enumerate" = none) (ha : EA X B e ta) (hg : Gl X "enumerate" := by rfl) (l : starEach [e] X.env = [(false, eval e X.env)] := by rfl) : IA X B (.Tuple elts kk tpos) (.Call (.Name "enumerate" p) [e] [] pos) (iterE ta) := ⟨fun ad F H s σ Q R r t k =>
  wi_of (pi_enum hg hm (pa_cons pe_we pa_nil l) l) ((WE.sz (ha.run ad F H s σ _ r t)).imp fun u H1 q => by
    obtain ⟨⟨ad1, F1, x, s1, e1, k1, r1, hx, ds, ed, q⟩, hz⟩ := q
    obtain ⟨a, vs, rfl, h1, h2⟩ := fzList_ok r1 hx ed
    have h1' := r1.fh _ _ h1
    exact ⟨a, vs, rfl, SqL.of h1', k _ ad1 F1 H1 s1 _ e1 k1 r1 (walks_enum h1 h2) (by have := hz a vs h1'; rw [h2.length] at this; simpa [enumsD] using this) q⟩)⟩
end
end Kr
/-! layer A9 -/
namespace Kr
open PySem L2
theorem hu1 {k : Nat} {A : Around} (h : Room k A) : A.units + 1 < cLine := by have := h.units; omega
section
variable {X : Cx} {B : Bs} {ad : List Addr} {F H : Hp} {s : AS} {σ : St} {x y : AVal} {u v : V} {a b c e f o : Expr} {es : List Expr} {pos p p2 apos cpos : Pos} {ta tb tc : TEA} {tl : TLA} {name : Str}
/-! ## further rules -/
/-- a name whose cell is told for good from here on -/
def fzA (m k : Nat) : TEA := fun s Q => onSome (s.sl[k]?.bind id) fun x => match x with
  | .r n => onSome s.cs[n]? fun c => match c with
    | .fz d => Q (.d d) s
    | c => (m ≤ n ∧ c.live = true) ∧ onSome (frzC c) fun d => Q (.d d) ⟨s.sl, s.cs.set n (.fz d)⟩
  | x => Q x s
theorem ea_fz (k : Nat) {x : Str} (hN : X.N[k]? = some x := by rfl) (hv : Vis X.env.scope x := by first | exact Or.inl rfl | exact Or.inr (Or.inl rfl) | exact Or.inr (Or.inr rfl)) (hd : (x == ("__debug__" : Str)) = false := by decide)
    (hcd : (x == ("__classdict__" : Str)) = false := by decide) : EA X B (.Name x pos) (fzA B.S.length k) := ⟨fun ad F H s σ Q r t => by
  obtain ⟨y, e, q⟩ := t
  have e' : s.sl[k]? = some (some y) := by
    cases h : s.sl[k]? with
    | none => rw [h] at e; cases e
    | some o => rw [h] at e; cases o with
      | none => cases e
      | some z => cases e; rfl
  obtain ⟨v, h1, h2⟩ := r.slt k y e'
  refine we_of (pe_var hN hv hd hcd) ⟨v, h1, ?_⟩
  cases y with
  | d y => exact .here r h2 q
  | s _ _ => exact .here r h2 q
  | a _ _ _ => exact .here r h2 q
  | r n =>
    obtain ⟨c, hc, q⟩ := q
    obtain ⟨a, ha, rfl⟩ := h2
    obtain ⟨n0, l, ok⟩ := r.cel n a c ha hc
    have lv : (B.S.length ≤ n ∧ c.live = true) ∧ (onSome (frzC c) fun d => Q (.d d) ⟨s.sl, s.cs.set n (.fz d)⟩) → Post B ad F σ Q (.ref a) H := fun ⟨⟨hm, hl⟩, d, hd, q⟩ => by
      obtain ⟨o, ho, hda⟩ := ok.frz hl (l hl) hd
      exact ⟨ad, upd F a o, .d d, _, Ext.refl _, same_upd (l hl), r.freeze ha hc hl hm ho hda, hda, q⟩
    cases c with
    | fz d => exact .here (x := .d d) r ok q
    | lst _ => exact lv q
    | dK _ => exact lv q
    | pool _ => exact lv q
    | gone => exact lv q
    | nl _ => exact lv q
    | nt _ => exact lv q
    | nd _ => exact lv q
    | dl _ _ _ => exact lv q
    | tr _ => exact lv q⟩
def negA (ta : TEA) : TEA := fun s Q => ta s fun x s1 => onSome x.int? fun i => Q (.d (.int (-i))) s1
/-- a op b op c of ints -/
def chainT (g h : Int → Int → Bool) (ta tb tc : TEA) : TTA := fun s Q => ta s fun x s1 => tb s1 fun y s2 => onSome x.int? fun i => onSome y.int? fun j => if g i j = true then tc s2 fun z s3 => onSome z.int? fun k => Q (h j k) s3 else Q false s2
theorem chain_run {op op' : CmpOp} {g h : Int → Int → Bool} (ho : OpR X (compareOp op) (rI0 fun i j => .bl (g i j))) (ho' : OpR X (compareOp op') (rI0 fun i j => .bl (h i j))) (ha : EA X B a ta) (hb : EA X B b tb) (hc : EA X B c tc) {Q : Bool → AS → Prop} {K : VK} (r : Rl B ad F H s σ) (t : chainT g h ta tb tc s Q) (hK : ∀ bb H', PostT B ad F σ Q bb H' → K (.bl bb) H') :
    tChain (rI0 fun i j => .bl (g i j)) (rI0 fun i j => .bl (h i j)) (WE X a) (WE X b) (WE X c) σ H K := by
  refine we2 (R := fun u v H2 => (rI0 fun i j => .bl (g i j)) u v H2 fun z H3 => ∃ k, z = .bl k ∧ (if k = true then WE X c σ H3 fun w' H4 => (rI0 fun i j => .bl (h i j)) v w' H4 K else K (.bl false) H3)) (K := fun _ _ => True) ha hb r t fun ad2 F2 H2 s2 x y u v e k r2 hu hv ⟨i, ei, j, ej, q⟩ => ?_
  have e1 := AVal.int?_of ei
  have e2 := AVal.int?_of ej
  subst e1; subst e2
  refine ⟨i, j, hu, hv, g i j, rfl, ?_⟩
  dsimp only at q
  cases hg : g i j with
  | true =>
    rw [hg, if_pos rfl] at q
    refine iteT ((hc.run ad2 F2 H2 s2 σ _ r2 q).imp fun w H3 q => ?_)
    obtain ⟨ad3, F3, z, s3, e3, k3, r3, hz, l, el, q⟩ := q
    have := AVal.int?_of el
    subst this
    exact ⟨j, l, hv, hz, hK _ _ ⟨ad3, F3, s3, e.trans e3, k.trans k3, r3, q⟩⟩
  | false =>
    rw [hg] at q
    exact iteF (hK _ _ ⟨ad2, F2, s2, e, k, r2, q⟩)
theorem et_chain {op op' : CmpOp} {g h : Int → Int → Bool} (ho : OpR X (compareOp op) (rI0 fun i j => .bl (g i j))) (ho' : OpR X (compareOp op') (rI0 fun i j => .bl (h i j))) (ha : EA X B a ta) (hb : EA X B b tb) (hc : EA X B c tc) (hm : lastMarks [op, op'] [b, c] = false := by with_unfolding_all rfl) :
    ET X B (.Compare a [op, op'] [b, c] pos) (chainT g h ta tb tc) := ⟨fun ad F H s σ Q r t => wt_of (pt_chain ho ho' pe_we pe_we pe_we hm) (chain_run (K := fun w H' => ∃ k, w = .bl k ∧ PostT B ad F σ Q k H') ho ho' ha hb hc r t fun bb H' p => ⟨bb, rfl, p⟩)⟩
theorem ea_chain {op op' : CmpOp} {g h : Int → Int → Bool} (ho : OpR X (compareOp op) (rI0 fun i j => .bl (g i j))) (ho' : OpR X (compareOp op') (rI0 fun i j => .bl (h i j))) (ha : EA X B a ta) (hb : EA X B b tb) (hc : EA X B c tc) (hm : lastMarks [op, op'] [b, c] = false := by with_unfolding_all rfl) :
    EA X B (.Compare a [op, op'] [b, c] pos) (boolA (chainT g h ta tb tc)) := ⟨fun ad F H s σ Q r t => we_of (pe_chain ho ho' pe_we pe_we pe_we hm) (chain_run (K := Post B ad F σ Q) ho ho' ha hb hc r t fun bb H' ⟨ad2, F2, a2, e, k, r2, q⟩ => ⟨ad2, F2, .d (.bool bb), a2, e, k, r2, rfl, q⟩)⟩
/-- texts joined -/
def joinA (to te : TEA) : TEA := fun s Q => to s fun x s1 => onSome x.str? fun z => te s1 fun y s2 => onSome (listOf s2 y) fun ds => onSome (strs? ds) fun ys => (ys.map (·.length)).sum + ys.length * z.length ≤ 16777216 ∧ Q (.d (.str (Txt.join z ys))) s2
theorem ea_join (ho : EA X B o ta) (he : EA X B e tb) (hs : starEach [e] X.env = [(false, eval e X.env)] := by rfl) (hbase : attributeBase o "join" X.env (eval o X.env) = eval o X.env := by rfl) (hline : (apos.endLine == pos.line) = true := by rfl) :
    EA X B (.Call (.Attribute o "join" apos) [e] [] pos) (joinA ta tb) := ⟨fun ad F H s σ Q r t =>
  we_of (pe_join pe_we pe_we hs hbase hline) ((ho.run ad F H s σ _ r t).imp fun v H1 q => by
    obtain ⟨ad1, F1, x, s1, e1, k1, r1, hv, z, ez, q⟩ := q
    have := AVal.str?_of ez
    subst this
    refine ⟨⟨z, hv⟩, (he.run ad1 F1 H1 s1 σ _ r1 q).imp fun w H2 q => ?_⟩
    obtain ⟨ad2, F2, y, s2, e2, k2, r2, hw, ds, ed, ys, ey, hz, q⟩ := q
    obtain ⟨l, vs, rfl, h1, h2⟩ := hw.list r2 ed
    have := strs?_of ey
    subst this
    obtain rfl := h2.strs
    exact ⟨z, l, ys, hv, rfl, .inl (SqL.of h1), hz, (Post.here (x := .d (.str (Txt.join z ys))) r2 rfl q).up (e1.trans e2) (k1.trans k2)⟩)⟩
/-! ## the script -/
def scrLen (K : PySem.W.Frag) (k : Nat) : TEA := fun s Q => onSome (s.sl[k]?.bind id) fun x => match x with
  | .s K' ns => K' = K ∧ Q (.d (.int ns.length)) s
  | _ => False
def scrAt (K : PySem.W.Frag) (k : Nat) (tb : TEA) : TEA := fun s Q => onSome (s.sl[k]?.bind id) fun x => match x with
  | .s K' ns => K' = K ∧ tb s fun y s1 => onSome y.int? fun i => onSome (L2.atI ns i) fun n => Q (.d (.int n)) s1
  | _ => False
theorem slot_get {k : Nat} (h : s.sl[k]?.bind id = some x) : s.sl[k]? = some (some x) := by
  cases e : s.sl[k]? with
  | none => rw [e] at h; cases h
  | some o => rw [e] at h; cases o with
    | none => cases h
    | some z => cases h; rfl
theorem ea_scrLen (k : Nat) {nm : Str} (hm : X.mg "len" = none) (hN : X.N[k]? = some nm := by rfl) (hv : Vis X.env.scope nm := by first | exact Or.inl rfl | exact Or.inr (Or.inl rfl) | exact Or.inr (Or.inr rfl)) (hd : (nm == ("__debug__" : Str)) = false := by decide) (hcd : (nm == ("__classdict__" : Str)) = false := by decide)
    (hg : Gl X "len" := by rfl) (pl : Pl X (.Name nm p2) [] pos := by exact ⟨rfl, rfl⟩) : EA X B (.Call (.Name "len" p) [.Name nm p2] [] pos) (scrLen X.K k) := ⟨fun ad F H s σ Q r t => by
  obtain ⟨y, e, q⟩ := t
  obtain ⟨v, h1, h2⟩ := r.slt k y (slot_get e)
  cases y with
  | d _ => exact q.elim
  | r _ => exact q.elim
  | a _ _ _ => exact q.elim
  | s K' ns =>
    obtain ⟨rfl, q⟩ := q
    obtain ⟨a, rfl, hq⟩ := h2
    exact we_of (pe_callB call_len hg hm PySem.boot_len (pa_cons (pe_var hN hv hd hcd) pa_nil pl.he) (by decide) (by decide) pl.he pl.hpl) ⟨_, h1, _, (ns.map V.int).length, rfl, .inl ⟨_, r.fh.seq hq, rfl⟩, .here (x := .d (.int ns.length)) r (by rw [List.length_map]; rfl) q⟩⟩
theorem ea_scrAt (k : Nat) {nm : Str} (hb : EA X B b tb) (hN : X.N[k]? = some nm := by rfl) (hv : Vis X.env.scope nm := by first | exact Or.inl rfl | exact Or.inr (Or.inl rfl) | exact Or.inr (Or.inr rfl)) (hd : (nm == ("__debug__" : Str)) = false := by decide) (hcd : (nm == ("__classdict__" : Str)) = false := by decide)
    (hs : PlainIx b := by exact fun _ _ => rfl) : EA X B (.Subscript (.Name nm p2) b pos) (scrAt X.K k tb) := ⟨fun ad F H s σ Q r t => by
  obtain ⟨y, e, q⟩ := t
  obtain ⟨v, h1, h2⟩ := r.slt k y (slot_get e)
  cases y with
  | d _ => exact q.elim
  | r _ => exact q.elim
  | a _ _ _ => exact q.elim
  | s K' ns =>
    obtain ⟨rfl, q⟩ := q
    obtain ⟨a, rfl, hq⟩ := h2
    refine we_of (pe_ix ix_list (pe_var hN hv hd hcd) pe_we hs) ⟨_, h1, (hb.run ad F H s σ _ r q).imp fun w H1 q => ?_⟩
    obtain ⟨ad1, F1, y, s1, e1, k1, r1, hw, i, ei, n, en, q⟩ := q
    have := AVal.int?_of ei
    subst this
    have hat : L2.atI (ns.map V.int) i = some (.int n) := by
      unfold L2.atI at en ⊢
      rw [List.length_map]
      cases hj : ixN ns.length i with
      | none => rw [hj] at en; cases en
      | some j =>
        rw [hj] at en
        have en' : ns[j]? = some n := en
        show (ns.map V.int)[j]? = _
        rw [List.getElem?_map, en']; rfl
    exact ⟨a, ns.map V.int, i, .int n, rfl, hw, r1.fh.seq (k1.seq hq), hat, (Post.here (x := .d (.int n)) r1 rfl q).up e1 k1⟩⟩
end
end Kr
namespace Kr
open PySem L2
def neverA : TSA := fun _ _ => False
theorem sa_never {X : Cx} {B : Bs} {st : Stmt} : SA X B st neverA := ⟨fun _ _ h => h.elim⟩
end Kr
/-! layer A10 -/
namespace Kr
open PySem L2
/-! ## plain rules -/
/-- one turn of a comprehension that leaves the cells: kept or not, and what is put -/
def lcStep (g : TGA) (tt : TTA) (te : TEA) (vs : List Nat) (sl : List (Option AVal)) (cs : List Cell) (x : PyData) (R1 : PyData → List Cell → Prop) (R2 : List Cell → Prop) : Prop :=
  g (.d x) ⟨wipeA sl vs, cs⟩ fun s1 => tt s1 fun b s2 => if b = true then te s2 fun y s3 => onSome y.data? fun d => R1 d s3.cs else R2 s2.cs
/-- the same over things told as data -/
theorem lcW_map {α : Type} {g : TGA} {tt : TTA} {te : TEA} {vs : List Nat} {ok : List Cell → Prop} {sl : List (Option AVal)} {cs : List Cell} {Q : List PyData → List Cell → Prop} (hok : ok cs) (D : α → PyData) (f : α → Bool) (h : α → PyData) : ∀ {xs : List α} {acc : List PyData},
    (∀ x ∈ xs, ∀ R1 R2, (f x = true → R1 (h x) cs) → (f x = false → R2 cs) → lcStep g tt te vs sl cs (D x) R1 R2) → Q (acc ++ (xs.filter f).map h) cs → lcW g tt te vs ok sl (xs.map D) acc cs Q
  | [], acc, _, q => by
    refine ⟨hok, ?_⟩
    simpa using q
  | x :: xs, acc, hs, q => by
    refine ⟨hok, hs x (List.mem_cons_self ..) (fun d cs' => lcW g tt te vs ok sl (xs.map D) (acc ++ [d]) cs' Q) (fun cs' => lcW g tt te vs ok sl (xs.map D) acc cs' Q) (fun hf => ?_) (fun hf => ?_)⟩
    · refine lcW_map hok D f h (fun y hy => hs y (List.mem_cons_of_mem _ hy)) ?_
      rw [List.filter_cons_of_pos hf] at q
      simpa using q
    · refine lcW_map hok D f h (fun y hy => hs y (List.mem_cons_of_mem _ hy)) ?_
      rw [List.filter_cons_of_neg (by simp [hf])] at q
      exact q
/-- a loop by a word of the turn and the state -/
theorem forW_map {α : Type} {m : Nat} {g : TGA} {t : TSA} {D : DA} (Dt : α → PyData) (xs : List α) (Iv : Nat → AS → Prop) {s : AS} (h0 : Iv 0 s)
    (hs : ∀ i x s' (N : AS → Prop), xs[i]? = some x → Iv i s' → (∀ s2 s3, Wk m s2 s3 → Iv (i + 1) s3 → N s2) → g (.d (Dt x)) s' fun s1 => t ⟨N, D.rt, D.nx, N⟩ s1)
    (hd : ∀ s', Iv xs.length s' → D.nx s') : forW m g t D (xs.map Dt) s := by
  have key : ∀ (n i : Nat) (s' : AS), xs.length = i + n → Iv i s' → forW m g t D ((xs.drop i).map Dt) s' := by
    intro n
    induction n with
    | zero =>
      intro i s' hl hi
      rw [List.drop_eq_nil_of_le (by omega)]
      have : i = xs.length := by omega
      subst this
      exact hd s' hi
    | succ n ih =>
      intro i s' hl hi
      have hlt : i < xs.length := by omega
      have e : xs[i]? = some xs[i] := List.getElem?_eq_getElem hlt
      rw [drop_get e]
      exact hs i _ s' _ e hi fun s2 s3 w h3 => ⟨s3, w, ih (i + 1) s3 (by omega) h3⟩
  exact key xs.length 0 s (by omega) h0
/-- where nothing is forgotten, or slots alone -/
theorem nodup1 {α : Type} {x : α} : [x].Nodup = True := by simp
theorem Wk0.refl {m : Nat} {s : AS} (hm : m ≤ s.cs.length) (hl : ∀ c ∈ s.cs, c.lt s.cs.length) (hs : ∀ (k : Nat) (x : AVal), s.sl[k]? = some (some x) → x.lt s.cs.length) : Wk0 m s s := ⟨rfl, fun k x h => ⟨h, hs k x h⟩, ⟨[], by simp⟩, hl, hm⟩
def ltO (n : Nat) : Option AVal → Prop
  | some x => x.lt n
  | none => True
def SubS (n : Nat) : List (Option AVal) → List (Option AVal) → Prop
  | [], [] => True
  | a :: as, b :: bs => (b = none ∨ (a = b ∧ ltO n b)) ∧ SubS n as bs
  | _, _ => False
theorem SubS.len {n : Nat} : ∀ {a b : List (Option AVal)}, SubS n a b → b.length = a.length
  | [], [], _ => rfl
  | _ :: _, _ :: _, h => by simp [SubS.len h.2]
  | [], _ :: _, h => h.elim
  | _ :: _, [], h => h.elim
theorem SubS.get {n : Nat} : ∀ {a b : List (Option AVal)} {k : Nat} {x : AVal}, SubS n a b → b[k]? = some (some x) → a[k]? = some (some x) ∧ x.lt n
  | [], [], k, x, _, h => by simp at h
  | u :: as, v :: bs, k, x, hs, h => by
    cases k with
    | zero =>
      have e : v = some x := by simpa using h
      subst e
      rcases hs.1 with h1 | ⟨h1, h2⟩
      · cases h1
      · exact ⟨by simp [h1], h2⟩
    | succ k =>
      have := SubS.get (k := k) hs.2 (by simpa using h)
      exact ⟨by simpa using this.1, this.2⟩
  | [], _ :: _, _, _, h, _ => h.elim
  | _ :: _, [], _, _, h, _ => h.elim
def Cell.low : Cell → Bool
  | .nl xs => xs.all AVal.nor
  | .nt _ => false
  | .nd _ => false
  | _ => true
theorem flat_lt {c : Cell} (h : c.low = true) (n : Nat) : c.lt n := by
  cases c with
  | nl xs =>
    intro x hx
    have := List.all_eq_true.mp h x hx
    cases x with
    | r _ => cases this
    | _ => trivial
  | nt _ => cases h
  | nd _ => cases h
  | _ => trivial
theorem wk_of {m : Nat} {sl sl' : List (Option AVal)} {cs cs' : List Cell} (more : List Cell) (hs : SubS cs'.length sl sl') (hc : cs = cs' ++ more) (hl : cs'.all Cell.low = true) (hm : m ≤ cs'.length) : Wk m ⟨sl, cs⟩ ⟨sl', cs'⟩ :=
  .inl ⟨hs.len, fun k x h => hs.get h, ⟨more, hc⟩, fun c hc => flat_lt (List.all_eq_true.mp hl c hc) _, hm⟩
/-- cells taken out in another order -/
def SubQ (m : Nat) (ns : List Nat) : List (Option AVal) → List (Option AVal) → Prop
  | [], [] => True
  | a :: as, b :: bs => (b = none ∨ ∃ y, a = some y ∧ b = some (partQ m ns y) ∧ hasR m ns y) ∧ SubQ m ns as bs
  | _, _ => False
theorem SubQ.len {m : Nat} {ns : List Nat} : ∀ {a b : List (Option AVal)}, SubQ m ns a b → b.length = a.length
  | [], [], _ => rfl
  | _ :: _, _ :: _, h => by simp [SubQ.len h.2]
  | [], _ :: _, h => h.elim
  | _ :: _, [], h => h.elim
theorem SubQ.get {m : Nat} {ns : List Nat} : ∀ {a b : List (Option AVal)} {k : Nat} {x : AVal}, SubQ m ns a b → b[k]? = some (some x) → ∃ y, a[k]? = some (some y) ∧ x = partQ m ns y ∧ hasR m ns y
  | [], [], k, x, _, h => by simp at h
  | u :: as, v :: bs, k, x, hs, h => by
    cases k with
    | zero =>
      have h : v = some x := by simpa using h
      subst h
      rcases hs.1 with e | ⟨y, e1, e2, e3⟩
      · cases e
      · cases e2; exact ⟨y, by simp [e1], rfl, e3⟩
    | succ k => simpa using SubQ.get hs.2 (by simpa using h)
  | [], _ :: _, _, _, h, _ => h.elim
  | _ :: _, [], _, _, h, _ => h.elim
theorem wk_pick {m : Nat} {sl sl' : List (Option AVal)} {cs cs' : List Cell} (ns : List Nat) (new : List Cell) (hs : SubQ m ns sl sl') (nd : ns.Nodup) (hn : ∀ n ∈ ns, m ≤ n) (hsub : subC cs ns = some new) (hc : cs' = cs.take m ++ new) (hl : cs'.all Cell.flat = true) (hm : m ≤ cs.length) : Wk m ⟨sl, cs⟩ ⟨sl', cs'⟩ :=
  .inr ⟨hs.len, hm, ns, new, nd, hn, hsub, hc, fun c h => List.all_eq_true.mp hl c h, fun k x h => hs.get h⟩
theorem atI_natE {α : Type} (xs : List α) (n : Nat) : L2.atI xs (n : Int) = xs[n]? := by
  unfold L2.atI ixN
  rw [if_pos (by omega)]
  by_cases h : (n : Int) < xs.length
  · rw [if_pos h]; rfl
  · rw [if_neg h, List.getElem?_eq_none (by omega)]; rfl
theorem atI_0 {α : Type} (x : α) (xs : List α) : L2.atI (x :: xs) 0 = some x := atI_natE (x :: xs) 0
theorem atI_1 {α : Type} (x y : α) (xs : List α) : L2.atI (x :: y :: xs) 1 = some y := atI_natE (x :: y :: xs) 1
theorem atI_2 {α : Type} (x y z : α) (xs : List α) : L2.atI (x :: y :: z :: xs) 2 = some z := atI_natE (x :: y :: z :: xs) 2
theorem atI_map {α β : Type} (f : α → β) (xs : List α) (i : Int) : L2.atI (xs.map f) i = (L2.atI xs i).map f := by
  unfold L2.atI
  rw [List.length_map]
  cases ixN xs.length i with
  | none => rfl
  | some j => simp
/-- a loop whose state is a function of the turn -/
theorem forW_fun {α : Type} {m : Nat} {g : TGA} {t : TSA} {D : DA} (Dt : α → PyData) (xs : List α) (A : Nat → AS) {s : AS} (h0 : s = A 0)
    (hs : ∀ i x (N : AS → Prop), xs[i]? = some x → (∀ s2, Wk m s2 (A (i + 1)) → N s2) → g (.d (Dt x)) (A i) fun s1 => t ⟨N, D.rt, D.nx, N⟩ s1)
    (hd : D.nx (A xs.length)) : forW m g t D (xs.map Dt) s :=
  forW_map Dt xs (fun i s => s = A i) h0 (fun i x s' N hx e hN => by subst e; exact hs i x N hx fun s2 w => hN s2 _ w rfl) fun s' e => by subst e; exact hd
theorem foldl_erase_len : ∀ (ls L : List Str), (ls.foldl List.erase L).length ≤ L.length
  | [], _ => Nat.le_refl _
  | l :: ls, L => Nat.le_trans (foldl_erase_len ls (L.erase l)) List.length_erase_le
end Kr
/-! layer A11 -/
namespace Kr
open PySem L2
/-! ## promises of the older kind, as transformers -/
section
variable {Pr : Program} {w : World} {K : PySem.W.Frag} {mg : Str → Option Value} {base : Heap} {k n c : Nat} {f : Addr} {fd : FuncData} {ps : List Str} {pre : List PyData → Prop} {fn : List PyData → PyData} {post : List PyData → PyData → Prop}
theorem inn0 {B : Bs} {ad : List Addr} {F H : Hp} {cs : List Cell} (h : cs.flatMap Cell.ads = []) (hT : B.T = []) : Inn B ad F H cs := ⟨by rw [h]; exact List.nodup_nil, fun q hq => (by rw [h] at hq; cases hq), fun q hq => (by rw [h] at hq; cases hq), fun q hq => (by rw [h] at hq; cases hq), fun b hb => (by rw [hT] at hb; cases hb)⟩
/-- the law itself -/
theorem okLaw_A {t : SpT} (G : FnOk Pr w K mg base CX0 k f fd ps (spA 1 t)) (h : ∀ ns : List Int, ns.length ≤ 63 → t [.s K ns] [] fun rv _ => rv = .f (.bool true)) : FnOk Pr w K mg base CX0 k f fd ps (spLaw K) := G.imp fun vs H Q E ⟨a, ns, hv, hS, hl, q⟩ => by
  subst hv
  refine ⟨H, [], [], [.s K ns], fun rv _ => rv = .f (.bool true), rfl, ⟨Same.refl _, Same.refl _, fun _ _ _ _ e => e, (fun _ h => by rcases h with h | h <;> cases h), fun _ e _ => e, ⟨[], rfl, (fun _ h => nomatch h)⟩, List.nodup_nil, rfl, fun i p c h1 => by simp at h1, rfl, fun k x h => by simp at h, inn0 rfl rfl⟩, .cons ⟨a, rfl, hS⟩ .nil, h ns hl, fun v H2 hp => ?_⟩
  rcases hp with ⟨F2, x, cs2, _, _, hd, e⟩ | ⟨F2, c, cs2, p, H1, o, _, _, _, _, _, _, _, _, e⟩ | ⟨_, _, _, _, _, _, _, e⟩ | ⟨_, _, _, _, _, _, _, _, e⟩ | ⟨_, _, _, _, _, _, _, _, _, _, _, _, _, e⟩
  · cases e
    obtain rfl : v = .bl true := hd
    exact q H2
  · cases e
  · cases e
  · cases e
  · cases e
end
end Kr
/-! layer A12 -/
namespace Kr
open PySem L2
/-! ## how transformers open, constructor by constructor -/
section
variable {s : AS} {Q : VQ} {x y : AVal} {ds es : List PyData} {i : Int} {z : Str} {n : Nat} {b : Bool} {P : RV → List Cell → Prop} {m : Nat} {d : PyData} {kvs : List (Key × AVal)} {xs : List AVal} {QT : Bool → AS → Prop} {K : PySem.W.Frag} {ns : List Int}
theorem retP_d : retP m P (.d d) s = ((s.cs.take m).all Cell.flat = true ∧ P (.f d) (s.cs.take m)) := rfl
def retC (m n : Nat) (P : RV → List Cell → Prop) (s : AS) : Cell → Prop
  | .fz y => P (.f y) (s.cs.take m)
  | .lst ds => P (.n (.lst ds)) (s.cs.take m)
  | .dK ds => P (.n (.dK ds)) (s.cs.take m)
  | .pool k => P (.n (.pool k)) (s.cs.take m)
  | .tr t => P (.t t) (s.cs.take m)
  | .nt xs => parts m s.cs P xs
  | .nl xs => xs.all AVal.nor = true ∧ P (.n (.nl xs)) (s.cs.take m)
  | _ => False
theorem retC_ok : ∀ {c : Cell}, retC m n P s c → (match c with | .fz y => P (.f y) (s.cs.take m) | .tr t => P (.t t) (s.cs.take m) | .nt xs => parts m s.cs P xs | c => c.live = true ∧ c.flat = true ∧ P (.n c) (s.cs.take m)) := by
  intro c h
  cases c with
  | fz y => exact h
  | lst _ => exact ⟨rfl, rfl, h⟩
  | dK _ => exact ⟨rfl, rfl, h⟩
  | pool _ => exact ⟨rfl, rfl, h⟩
  | gone => exact h.elim
  | nl _ => exact ⟨rfl, h.1, h.2⟩
  | nt _ => exact h
  | nd _ => exact h.elim
  | dl _ _ _ => exact h.elim
  | tr _ => exact h
theorem retC_of : ∀ {c : Cell}, (match c with | .fz y => P (.f y) (s.cs.take m) | .tr t => P (.t t) (s.cs.take m) | .nt xs => parts m s.cs P xs | c => c.live = true ∧ c.flat = true ∧ P (.n c) (s.cs.take m)) → retC m n P s c := by
  intro c h
  cases c with
  | fz y => exact h
  | lst _ => exact h.2.2
  | dK _ => exact h.2.2
  | pool _ => exact h.2.2
  | gone => exact Bool.noConfusion h.1
  | nl _ => exact ⟨h.2.1, h.2.2⟩
  | nt _ => exact h
  | nd _ => exact Bool.noConfusion h.2.1
  | dl _ _ _ => exact Bool.noConfusion h.2.1
  | tr _ => exact h
theorem retP_rE : retP m P (.r n) s = ((s.cs.take m).all Cell.flat = true ∧ if n < m then P (.p n) (s.cs.take m) else onSome s.cs[n]? (retC m n P s)) := by
  unfold retP
  refine congrArg _ ?_
  dsimp only
  split
  · rfl
  · exact propext ⟨fun ⟨c, hc, h⟩ => ⟨c, hc, retC_of h⟩, fun ⟨c, hc, h⟩ => ⟨c, hc, retC_ok h⟩⟩
theorem retC_nt {ys : List AVal} : retC m n P s (.nt ys) = parts m s.cs P ys := rfl
theorem retC_tr {t : Tr} : retC m n P s (.tr t) = P (.t t) (s.cs.take m) := rfl
theorem addA_int : addA (.d (.int i)) y s Q = onSome y.int? fun j => Q (.d (.int (i + j))) s := rfl
theorem addA_str : addA (.d (.str z)) y s Q = onSome y.str? fun q => z.length + q.length ≤ sizeLine ∧ Q (.d (.str (z ++ q))) s := rfl
theorem addA_lst : addA (.d (.list ds)) y s Q = onSome (listOf s y) fun es => ds.length + es.length ≤ sizeLine ∧ Q (.d (.list (ds ++ es))) s := by
  show onSome (some ds) _ = _; rw [onSome_some]
theorem addA_r : addA (.r n) y s Q = onSome (listOf s (.r n)) fun ds => onSome (listOf s y) fun es => ds.length + es.length ≤ sizeLine ∧ Q (.d (.list (ds ++ es))) s := rfl
theorem mulA_int : mulA (.d (.int i)) y s Q = onSome y.int? fun j => CMul i j ∧ Q (.d (.int (i * j))) s := rfl
theorem mulA_lst : mulA (.d (.list ds)) y s Q = onSome y.int? fun n => (-(2 ^ 63) ≤ n ∧ n < 2 ^ 63 ∧ ds.length * n.toNat ≤ sizeLine) ∧ Q (.d (.list (repL n ds))) s := by
  show onSome (some ds) _ = _; rw [onSome_some]
theorem mulA_r : mulA (.r n) y s Q = onSome (listOf s (.r n)) fun ds => onSome y.int? fun n => (-(2 ^ 63) ≤ n ∧ n < 2 ^ 63 ∧ ds.length * n.toNat ≤ sizeLine) ∧ Q (.d (.list (repL n ds))) s := rfl
theorem ltT_str : ltT (.d (.str z)) y s QT = onSome y.str? fun q => QT (decide (z.cps.toList < q.cps.toList)) s := rfl
theorem ltT_int : ltT (.d (.int i)) y s QT = onSome y.int? fun j => QT (decide (i < j)) s := by
  show onSome (some i) _ = _; rw [onSome_some]
def ixV (s : AS) (y : AVal) (Q : VQ) : View → Prop
  | .seq xs => onSome y.int? fun i => onSome (L2.atI xs i) fun z => Q z s
  | .dct kvs => onSome y.key? fun k => onSome (getA kvs k) fun z => Q z s
  | .txt z => onSome y.int? fun i => z.length ≤ sizeLine ∧ onSome (L2.atI z.cps.toList i) fun c => Q (.d (.str ⟨#[c]⟩)) s
  | .oth => False
theorem ixA_V : ixA x y s Q = ixV s y Q (view s x) := by unfold ixA ixV; cases view s x <;> rfl
def slV (lo hi : Option Int) (x : AVal) (s : AS) (Q : VQ) : View → Prop
  | .txt z => z.length ≤ sizeLine ∧ Q (.d (.str (cutS z lo hi))) s
  | .seq _ => onSome (listOf s x) fun ds => Q (.d (.list (cutD ds lo hi))) s
  | _ => onSome (listOf s x) fun ds => Q (.d (.list (cutD ds lo hi))) s
theorem slA_V {lo hi : Option Int} : slA lo hi x s Q = slV lo hi x s Q (view s x) := by unfold slA slV; cases view s x <;> rfl
def inV' (neg : Bool) (x y : AVal) (s : AS) (Q : Bool → AS → Prop) : View → Prop
  | .dct kvs => onSome x.key? fun k => Q ((getA kvs k).isSome != neg) s
  | .txt z => onSome x.str? fun w => onSome (w.cps.toList.head?) fun c => w = ⟨#[c]⟩ ∧ Q (decide (c ∈ z.cps.toList) != neg) s
  | .seq _ => onSome (listOf s y) fun ds => onSome x.data? fun d => (flatD d = true ∧ ds.all flatD = true) ∧ Q (inD d ds != neg) s
  | .oth => onSome (listOf s y) fun ds => onSome x.data? fun d => (flatD d = true ∧ ds.all flatD = true) ∧ Q (inD d ds != neg) s
theorem inT_V {neg : Bool} : inT neg x y s QT = inV' neg x y s QT (view s y) := by unfold inT inV'; cases view s y <;> rfl
def tup2V (g1 g2 : TGA) (s : AS) (Q : AS → Prop) : List AVal → Prop
  | [x1, x2] => g1 x1 s fun s1 => g2 x2 s1 Q
  | _ => False
theorem tup2G_V {g1 g2 : TGA} {Q : AS → Prop} : tup2G g1 g2 x s Q = onSome (tupOf s x) (tup2V g1 g2 s Q) := by
  unfold tup2G
  congr 1
def tup3V (g1 g2 g3 : TGA) (s : AS) (Q : AS → Prop) : List AVal → Prop
  | [x1, x2, x3] => g1 x1 s fun s1 => g2 x2 s1 fun s2 => g3 x3 s2 Q
  | _ => False
theorem tup3G_V {g1 g2 g3 : TGA} {Q : AS → Prop} : tup3G g1 g2 g3 x s Q = onSome (tupOf s x) (tup3V g1 g2 g3 s Q) := by
  unfold tup3G
  congr 1
def lenV (s : AS) (Q : VQ) : View → Prop
  | .seq ys => Q (.d (.int ys.length)) s
  | .dct kvs => Q (.d (.int kvs.length)) s
  | .txt z => z.length ≤ sizeLine ∧ Q (.d (.int z.length)) s
  | .oth => False
theorem lenA_V : lenA [x] s Q = lenV s Q (view s x) := by unfold lenA lenV; dsimp only [one]; try (cases view s x <;> rfl)
def sortV (x : AVal) (s : AS) (Q : Cell → AS → Prop) : View → Prop
  | .dct kvs => onSome (txtKeys kvs) fun ks => ks.length < 64 ∧ Q (.lst ((srt ks).map .str)) s
  | .seq _ => onSome (listOf s x) fun ds => onSome (srtD ds) fun es => Q (.lst es) s
  | .txt _ => onSome (listOf s x) fun ds => onSome (srtD ds) fun es => Q (.lst es) s
  | .oth => onSome (listOf s x) fun ds => onSome (srtD ds) fun es => Q (.lst es) s
theorem sortedN_V {QN : Cell → AS → Prop} : sortedN [x] s QN = sortV x s QN (view s x) := by unfold sortedN sortV; dsimp only [one]; cases view s x <;> rfl
def gotV (y z : AVal) (s : AS) (Q : VQ) : View → Prop
  | .dct kvs => onSome y.key? fun k => Q ((getA kvs k).getD z) s
  | _ => False
def isDctV : View → Prop
  | .dct _ => True
  | _ => False
theorem isDct_V : isDct s x = isDctV (view s x) := by unfold isDct isDctV; cases view s x <;> rfl
theorem getA2_V {to te tf : TEA} : getA2 to te tf s Q = to s fun x s1 => isDct s1 x ∧ te s1 fun y s2 => tf s2 fun z s3 => gotV y z s3 Q (view s3 x) := by
  rfl
def lstC (k : List PyData → Prop) : Cell → Prop
  | .lst ds => k ds
  | _ => False
theorem onLst_r {k : Nat → List PyData → Prop} : onLst s (.r n) k = onSome s.cs[n]? (lstC (k n)) := by
  show (match s.cs[n]? with | some (.lst ds) => k n ds | _ => False) = onSome s.cs[n]? (lstC (k n))
  generalize s.cs[n]? = o
  cases o with
  | none => exact propext ⟨fun h => h.elim, fun ⟨_, e, _⟩ => by cases e⟩
  | some c => rw [onSome_some]; cases c <;> rfl
def dctC (k : List (Key × PyData) → Prop) : Cell → Prop
  | .dK ds => k ds
  | _ => False
theorem onDct_r {k : Nat → List (Key × PyData) → Prop} : onDct s (.r n) k = onSome s.cs[n]? (dctC (k n)) := by
  show (match s.cs[n]? with | some (.dK ds) => k n ds | _ => False) = onSome s.cs[n]? (dctC (k n))
  generalize s.cs[n]? = o
  cases o with
  | none => exact propext ⟨fun h => h.elim, fun ⟨_, e, _⟩ => by cases e⟩
  | some c => rw [onSome_some]; cases c <;> rfl
theorem intA_int : intA [.d (.int i)] s Q = Q (.d (.int i)) s := rfl
theorem intA_bool : intA [.d (.bool b)] s Q = Q (.d (.int (if b then 1 else 0))) s := rfl
def fzC (m n : Nat) (s : AS) (Q : VQ) : Cell → Prop
  | .fz d => Q (.d d) s
  | .lst ds => m ≤ n ∧ Q (.d (.list ds)) ⟨s.sl, s.cs.set n (.fz (.list ds))⟩
  | .dK ds => m ≤ n ∧ Q (.d (dictD ds)) ⟨s.sl, s.cs.set n (.fz (dictD ds))⟩
  | _ => False
def fzV (m : Nat) (s : AS) (Q : VQ) : AVal → Prop
  | .r n => onSome s.cs[n]? (fzC m n s Q)
  | .d x => Q (.d x) s
  | .s K ns => Q (.s K ns) s
  | .a p n pt => Q (.a p n pt) s
theorem fzA_V {k : Nat} : fzA m k s Q = onSome (s.sl[k]?.bind id) (fzV m s Q) := by
  unfold fzA
  congr 1; funext x
  cases x with
  | d _ => rfl
  | s _ _ => rfl
  | a _ _ _ => rfl
  | r n =>
    show (onSome s.cs[n]? fun c => match c with | .fz d => Q (.d d) s | c => (m ≤ n ∧ c.live = true) ∧ onSome (frzC c) fun d => Q (.d d) ⟨s.sl, s.cs.set n (.fz d)⟩) = onSome s.cs[n]? (fzC m n s Q)
    congr 1; funext c
    cases c with
    | fz d => rfl
    | lst ds => exact propext ⟨fun ⟨h1, d, e, h2⟩ => by cases e; exact ⟨h1.1, h2⟩, fun ⟨h1, h2⟩ => ⟨⟨h1, rfl⟩, _, rfl, h2⟩⟩
    | dK ds => exact propext ⟨fun ⟨h1, d, e, h2⟩ => by cases e; exact ⟨h1.1, h2⟩, fun ⟨h1, h2⟩ => ⟨⟨h1, rfl⟩, _, rfl, h2⟩⟩
    | pool _ => exact propext ⟨(fun ⟨h1, d, e, h2⟩ => by cases e), (fun h => False.elim h)⟩
    | gone => exact propext ⟨(fun ⟨h1, d, e, h2⟩ => by cases e), (fun h => False.elim h)⟩
    | nl _ => exact propext ⟨(fun ⟨h1, d, e, h2⟩ => by cases e), (fun h => False.elim h)⟩
    | nt _ => exact propext ⟨(fun ⟨h1, d, e, h2⟩ => by cases e), (fun h => False.elim h)⟩
    | nd _ => exact propext ⟨(fun ⟨h1, d, e, h2⟩ => by cases e), (fun h => False.elim h)⟩
    | dl _ _ _ => exact propext ⟨(fun ⟨h1, d, e, h2⟩ => by cases e), (fun h => False.elim h)⟩
    | tr _ => exact propext ⟨(fun ⟨h1, d, e, h2⟩ => by cases e), (fun h => False.elim h)⟩
theorem resF_f : resF Q (.f d) s = Q (.d d) s := rfl
theorem resF_n {c : Cell} : resF Q (.n c) s = onSome (frzC c) fun d => Q (.d d) s := rfl
theorem resO_f {nn : List Nat} : resO nn Q (.f d) s = Q (.d d) s := rfl
theorem resO_n {c : Cell} {nn : List Nat} : resO nn Q (.n c) s = Q (.r s.cs.length) ⟨s.sl, s.cs ++ [c]⟩ := rfl
theorem resO_t {t : Tr} {nn : List Nat} : resO nn Q (.t t) s = Q (.r s.cs.length) ⟨s.sl, s.cs ++ [.tr t]⟩ := rfl
theorem resO_p {k : Nat} {nn : List Nat} : resO nn Q (.p k) s = onSome nn[k]? fun n => Q (.r n) s := rfl
theorem scrLen_V {k : Nat} {ns : List Int} (h : s.sl[k]? = some (some (.s K ns))) : scrLen K k s Q = Q (.d (.int ns.length)) s := by
  unfold scrLen; rw [h]; exact propext ⟨fun ⟨_, e, h⟩ => by cases e; exact h.2, fun h => ⟨_, rfl, rfl, h⟩⟩
def listC : Cell → Option (List PyData)
  | .lst ds => some ds
  | .fz (.list ds) => some ds
  | .tr (.nd .lst _ xs) => leafs xs
  | _ => none
theorem listOf_r : listOf s (.r n) = s.cs[n]?.bind listC := by
  show (match s.cs[n]? with | some (.lst ds) => some ds | some (.fz (.list ds)) => some ds | some (.tr (.nd .lst _ xs)) => leafs xs | _ => none) = s.cs[n]?.bind listC
  generalize s.cs[n]? = o
  cases o with
  | none => rfl
  | some c => cases c with
    | fz y => cases y <;> rfl
    | tr t => cases t with
      | d _ => rfl
      | nd k _ _ => cases k <;> rfl
    | _ => rfl
theorem listC_tr {a : Addr} {ts : List Tr} : listC (.tr (.nd .lst a ts)) = leafs ts := rfl
theorem listOf_a {p : Addr} {pt : List Nat} : listOf s (.a p n pt) = leafL (nodeAt s (.a p n pt)) := rfl
theorem leafL_l {a : Addr} {pt : List Nat} {ts : List Tr} : leafL (some (n, pt, .lst, a, ts)) = leafs ts := rfl
theorem listOf_d : listOf s (.d (.list ds)) = some ds := rfl
def fzListC : Cell → Option (List PyData)
  | .fz (.list ds) => some ds
  | _ => none
theorem fzList_r : fzList s (.r n) = s.cs[n]?.bind fzListC := by
  show (match s.cs[n]? with | some (.fz (.list ds)) => some ds | _ => none) = s.cs[n]?.bind fzListC
  generalize s.cs[n]? = o
  cases o with
  | none => rfl
  | some c => cases c with
    | fz y => cases y <;> rfl
    | _ => rfl
theorem fzList_d : fzList s (.d (.list ds)) = some ds := rfl
def isLstC : Cell → Bool
  | .lst _ => true
  | .nl _ => true
  | .fz (.list _) => true
  | .tr (.nd .lst _ _) => true
  | _ => false
theorem isLst_r : isLst s (.r n) = (s.cs[n]?.map isLstC).getD false := by
  show (match s.cs[n]? with | some (.lst _) => true | some (.nl _) => true | some (.fz (.list _)) => true | some (.tr (.nd .lst _ _)) => true | _ => false) = (s.cs[n]?.map isLstC).getD false
  generalize s.cs[n]? = o
  cases o with
  | none => rfl
  | some c => cases c with
    | fz y => cases y <;> rfl
    | tr t => cases t with
      | d _ => rfl
      | nd k _ _ => cases k <;> rfl
    | _ => rfl
theorem isLstC_tr {a : Addr} {ts : List Tr} : isLstC (.tr (.nd .lst a ts)) = true := rfl
theorem isLst_a {p : Addr} {pt : List Nat} : isLst s (.a p n pt) = match nodeK s (.a p n pt) with | some .lst => true | _ => false := rfl
theorem isLst_d : isLst s (.d (.list ds)) = true := rfl
theorem view_r : view s (.r n) = (s.cs[n]?.map (viewC n)).getD .oth := by
  show (match s.cs[n]? with | some c => viewC n c | none => .oth) = (s.cs[n]?.map (viewC n)).getD .oth
  generalize s.cs[n]? = o
  cases o with
  | none => rfl
  | some c => cases c with
    | _ => rfl
theorem view_d : view s (.d d) = viewD d := rfl
theorem viewD_list : viewD (.list ds) = .seq (ds.map .d) := rfl
theorem viewD_tuple : viewD (.tuple ds) = .seq (ds.map .d) := rfl
theorem viewD_str : viewD (.str z) = .txt z := rfl
theorem viewD_dictD {k : List (Key × PyData)} : viewD (dictD k) = .dct (dkv k) := view_dictD (s := ⟨[], []⟩)
def tyC : Cell → Option String
  | .lst _ => some "list"
  | .nl _ => some "list"
  | .nt _ => some "tuple"
  | .dK _ => some "dict"
  | .nd _ => some "dict"
  | .fz x => tyD x
  | .tr (.nd k _ _) => kdTy k
  | _ => none
theorem tyOf_r : tyOf s (.r n) = s.cs[n]?.bind tyC := by
  show (match s.cs[n]? with | some (.lst _) => some "list" | some (.nl _) => some "list" | some (.nt _) => some "tuple" | some (.dK _) => some "dict" | some (.nd _) => some "dict" | some (.fz x) => tyD x | some (.tr (.nd k _ _)) => kdTy k | _ => none) = s.cs[n]?.bind tyC
  generalize s.cs[n]? = o
  cases o with
  | none => rfl
  | some c => cases c with
    | tr t => cases t <;> rfl
    | _ => rfl
theorem tyC_tr {k : Kd} {a : Addr} {ts : List Tr} : tyC (.tr (.nd k a ts)) = kdTy k := rfl
theorem tyOf_a {p : Addr} {pt : List Nat} : tyOf s (.a p n pt) = (nodeK s (.a p n pt)).bind kdTy := rfl
theorem kdTy_lst : kdTy .lst = some "list" := rfl
theorem kdTy_tup : kdTy .tup = some "tuple" := rfl
theorem kdTy_dct {ks : List Key} : kdTy (.dct ks) = some "dict" := rfl
theorem tyOf_d : tyOf s (.d d) = tyD d := rfl
def tupC : Cell → Option (List AVal)
  | .nt xs => some xs
  | .nl xs => some xs
  | .lst ds => some (ds.map .d)
  | .fz (.tuple ds) => some (ds.map .d)
  | .fz (.list ds) => some (ds.map .d)
  | _ => none
theorem tupOf_r : tupOf s (.r n) = s.cs[n]?.bind tupC := by
  show (match s.cs[n]? with | some (.nt xs) => some xs | some (.nl xs) => some xs | some (.lst ds) => some (ds.map .d) | some (.fz (.tuple ds)) => some (ds.map .d) | some (.fz (.list ds)) => some (ds.map .d) | _ => none) = s.cs[n]?.bind tupC
  generalize s.cs[n]? = o
  cases o with
  | none => rfl
  | some c => cases c with
    | fz y => cases y <;> rfl
    | _ => rfl
theorem tupOf_d : tupOf s (.d (.tuple ds)) = some (ds.map .d) := rfl
theorem tupOf_dl : tupOf s (.d (.list ds)) = some (ds.map .d) := rfl
def iterOC (n : Nat) (s : AS) (Q : List PyData → (List Cell → Prop) → AS → Prop) : Cell → Prop
  | .lst ds => Q ds (fun cs => cs[n]? = some (.lst ds)) s
  | .fz (.list ds) => Q ds (fun _ => True) s
  | _ => False
def iterOV (s : AS) (Q : List PyData → (List Cell → Prop) → AS → Prop) : AVal → Prop
  | .r n => onSome s.cs[n]? (iterOC n s Q)
  | .d (.list ds) => Q ds (fun _ => True) s
  | .a p n pt => onSome (leafL (nodeAt s (.a p n pt))) fun ds => Q ds (fun cs => leafL (nodeAt ⟨[], cs⟩ (.a p n pt)) = some ds) s
  | _ => False
theorem iterO_V {ta : TEA} {QO : List PyData → (List Cell → Prop) → AS → Prop} : iterO ta s QO = ta s fun x s1 => iterOV s1 QO x := by
  rfl
theorem eqOk_int {j : Int} : eqOk (.int i) (.int j) = True := rfl
theorem eqOk_str {w : Str} : eqOk (.str z) (.str w) = True := rfl
theorem eqOk_bool {c : Bool} : eqOk (.bool b) (.bool c) = True := rfl
theorem eqv_int {j : Int} : PyData.eqv (.int i) (.int j) = decide (i = j) := by simp [PyData.eqv, Bool.beq_eq_decide_eq]
theorem eqv_str {w : Str} : PyData.eqv (.str z) (.str w) = decide (z = w) := by simp [PyData.eqv, Bool.beq_eq_decide_eq]
theorem eqv_bool {c : Bool} : PyData.eqv (.bool b) (.bool c) = decide (b = c) := by simp [PyData.eqv, Bool.beq_eq_decide_eq]
theorem scrLen_0 {sl : List (Option AVal)} {cs : List Cell} : scrLen K 0 ⟨some (.s K ns) :: sl, cs⟩ Q = Q (.d (.int ns.length)) ⟨some (.s K ns) :: sl, cs⟩ := scrLen_V rfl
theorem kb_ll : kitB "list" "list" = some true := by decide +kernel
theorem kb_ii : kitB "int" "int" = some true := by decide +kernel
theorem kb_ib : kitB "int" "bool" = some false := by decide +kernel
theorem kb_bb : kitB "bool" "bool" = some true := by decide +kernel
theorem kb_bi : kitB "bool" "int" = some true := by decide +kernel
theorem kb_ss : kitB "str" "str" = some true := by decide +kernel
theorem kb_tt : kitB "tuple" "tuple" = some true := by decide +kernel
theorem kb_dd : kitB "dict" "dict" = some true := by decide +kernel
theorem ixV_seq : ixV s y Q (.seq xs) = onSome y.int? fun i => onSome (L2.atI xs i) fun z => Q z s := rfl
theorem ixV_dct : ixV s y Q (.dct kvs) = onSome y.key? fun k => onSome (getA kvs k) fun z => Q z s := rfl
theorem ixV_txt : ixV s y Q (.txt z) = onSome y.int? fun i => z.length ≤ sizeLine ∧ onSome (L2.atI z.cps.toList i) fun c => Q (.d (.str ⟨#[c]⟩)) s := rfl
theorem slV_txt {lo hi : Option Int} : slV lo hi x s Q (.txt z) = (z.length ≤ sizeLine ∧ Q (.d (.str (cutS z lo hi))) s) := rfl
theorem slV_seq {lo hi : Option Int} : slV lo hi x s Q (.seq xs) = onSome (listOf s x) fun ds => Q (.d (.list (cutD ds lo hi))) s := rfl
theorem inV'_dct {neg : Bool} : inV' neg x y s QT (.dct kvs) = onSome x.key? fun k => QT ((getA kvs k).isSome != neg) s := rfl
theorem inV'_txt {neg : Bool} : inV' neg x y s QT (.txt z) = onSome x.str? fun w => onSome (w.cps.toList.head?) fun c => w = ⟨#[c]⟩ ∧ QT (decide (c ∈ z.cps.toList) != neg) s := rfl
theorem inV'_seq {neg : Bool} : inV' neg x y s QT (.seq xs) = onSome (listOf s y) fun ds => onSome x.data? fun d => (flatD d = true ∧ ds.all flatD = true) ∧ QT (inD d ds != neg) s := rfl
theorem tup2V_2 {g1 g2 : TGA} {QS : AS → Prop} : tup2V g1 g2 s QS [x, y] = g1 x s fun s1 => g2 y s1 QS := rfl
theorem tup3V_3 {g1 g2 g3 : TGA} {QS : AS → Prop} {w : AVal} : tup3V g1 g2 g3 s QS [x, y, w] = g1 x s fun s1 => g2 y s1 fun s2 => g3 w s2 QS := rfl
theorem lenV_seq : lenV s Q (.seq xs) = Q (.d (.int xs.length)) s := rfl
theorem lenV_dct : lenV s Q (.dct kvs) = Q (.d (.int kvs.length)) s := rfl
theorem lenV_txt : lenV s Q (.txt z) = (z.length ≤ sizeLine ∧ Q (.d (.int z.length)) s) := rfl
theorem sortV_dct {QN : Cell → AS → Prop} : sortV x s QN (.dct kvs) = onSome (txtKeys kvs) fun ks => ks.length < 64 ∧ QN (.lst ((srt ks).map .str)) s := rfl
theorem sortV_seq {QN : Cell → AS → Prop} : sortV x s QN (.seq xs) = onSome (listOf s x) fun ds => onSome (srtD ds) fun es => QN (.lst es) s := rfl
theorem gotV_dct {w : AVal} : gotV y w s Q (.dct kvs) = onSome y.key? fun k => Q ((getA kvs k).getD w) s := rfl
theorem isDctV_dct : isDctV (.dct kvs) = True := rfl
theorem lstC_lst {kk : List PyData → Prop} : lstC kk (.lst ds) = kk ds := rfl
theorem dctC_dK {kk : List (Key × PyData) → Prop} {kd : List (Key × PyData)} : dctC kk (.dK kd) = kk kd := rfl
theorem fzV_r : fzV m s Q (.r n) = onSome s.cs[n]? (fzC m n s Q) := rfl
theorem fzV_d : fzV m s Q (.d d) = Q (.d d) s := rfl
theorem fzC_fz : fzC m n s Q (.fz d) = Q (.d d) s := rfl
theorem fzC_lst : fzC m n s Q (.lst ds) = (m ≤ n ∧ Q (.d (.list ds)) ⟨s.sl, s.cs.set n (.fz (.list ds))⟩) := rfl
theorem fzC_dK {kd : List (Key × PyData)} : fzC m n s Q (.dK kd) = (m ≤ n ∧ Q (.d (dictD kd)) ⟨s.sl, s.cs.set n (.fz (dictD kd))⟩) := rfl
theorem listC_lst : listC (.lst ds) = some ds := rfl
theorem listC_fz : listC (.fz (.list ds)) = some ds := rfl
theorem fzListC_fz : fzListC (.fz (.list ds)) = some ds := rfl
theorem isLstC_lst : isLstC (.lst ds) = true := rfl
theorem isLstC_fz : isLstC (.fz (.list ds)) = true := rfl
theorem isLstC_nl : isLstC (.nl xs) = true := rfl
theorem viewC_lst : viewC n (.lst ds) = .seq (ds.map .d) := rfl
theorem viewC_nl : viewC n (.nl xs) = .seq xs := rfl
theorem viewC_nt : viewC n (.nt xs) = .seq xs := rfl
theorem viewC_dK {kd : List (Key × PyData)} : viewC n (.dK kd) = .dct (dkv kd) := rfl
theorem viewC_nd : viewC n (.nd kvs) = .dct kvs := rfl
theorem viewC_fz : viewC n (.fz d) = viewD d := rfl
theorem viewC_tr {k : Kd} {a : Addr} {ts : List Tr} : viewC n (.tr (.nd k a ts)) = viewT n [] k ts := rfl
theorem viewT_l {pt : List Nat} {ts : List Tr} : viewT n pt .lst ts = .seq (kids n pt ts) := rfl
theorem viewT_t {pt : List Nat} {ts : List Tr} : viewT n pt .tup ts = .seq (kids n pt ts) := rfl
theorem viewT_d {pt : List Nat} {ts : List Tr} {ks : List Key} : viewT n pt (.dct ks) ts = .dct (ks.zip (kids n pt ts)) := rfl
theorem view_a {p : Addr} {pt : List Nat} : view s (.a p n pt) = match nodeAt s (.a p n pt) with | some (m, pt', k, _, xs) => viewT m pt' k xs | none => .oth := rfl
theorem nodeAt_a {p : Addr} {pt : List Nat} : nodeAt s (.a p n pt) = match s.cs[n]? with | some (.tr t) => (match t.at pt with | some (.nd k q xs) => if q = p then some (n, pt, k, q, xs) else none | _ => none) | _ => none := rfl
theorem nodeAt_r : nodeAt s (.r n) = match s.cs[n]? with | some (.tr (.nd k q xs)) => some (n, [], k, q, xs) | _ => none := rfl
theorem cellD_lst : cellD (.lst ds) = some (.list ds) := rfl
theorem cellD_dK {kd : List (Key × PyData)} : cellD (.dK kd) = some (dictD kd) := rfl
theorem cellD_fz : cellD (.fz d) = some d := rfl
theorem cellD_tr {t : Tr} : cellD (.tr t) = t.data? := rfl
theorem pass_lst : Cell.pass (.lst ds) = true := rfl
theorem pass_dK {kd : List (Key × PyData)} : Cell.pass (.dK kd) = true := rfl
theorem pass_pool {j : Nat} : Cell.pass (.pool j) = true := rfl
theorem pass_fz : Cell.pass (.fz d) = true := rfl
theorem pass_tr {t : Tr} : Cell.pass (.tr t) = true := rfl
theorem flat_tr {t : Tr} : Cell.flat (.tr t) = true := rfl
theorem flat_gone : Cell.flat .gone = true := rfl
theorem ren_a {nn : List Nat} {p : Addr} {pt : List Nat} : ren nn (.a p n pt) = .a p (nn.idxOf n) pt := rfl
theorem addA_a {p : Addr} {pt : List Nat} : addA (.a p n pt) y s Q = onSome (listOf s (.a p n pt)) fun ds => onSome (listOf s y) fun es => ds.length + es.length ≤ sizeLine ∧ Q (.d (.list (ds ++ es))) s := rfl
theorem tyC_lst : tyC (.lst ds) = some "list" := rfl
theorem tyC_dK {kd : List (Key × PyData)} : tyC (.dK kd) = some "dict" := rfl
theorem tyC_fz : tyC (.fz d) = tyD d := rfl
theorem tupC_lst : tupC (.lst ds) = some (ds.map .d) := rfl
theorem tupC_fzl : tupC (.fz (.list ds)) = some (ds.map .d) := rfl
theorem tupC_nt : tupC (.nt xs) = some xs := rfl
theorem tupC_fz : tupC (.fz (.tuple ds)) = some (ds.map .d) := rfl
theorem iterOV_r {QO : List PyData → (List Cell → Prop) → AS → Prop} : iterOV s QO (.r n) = onSome s.cs[n]? (iterOC n s QO) := rfl
theorem iterOV_d {QO : List PyData → (List Cell → Prop) → AS → Prop} : iterOV s QO (.d (.list ds)) = QO ds (fun _ => True) s := rfl
theorem iterOV_a {p : Addr} {pt : List Nat} {QO : List PyData → (List Cell → Prop) → AS → Prop} : iterOV s QO (.a p n pt) = onSome (leafL (nodeAt s (.a p n pt))) fun ds => QO ds (fun cs => leafL (nodeAt ⟨[], cs⟩ (.a p n pt)) = some ds) s := rfl
theorem iterOC_lst {QO : List PyData → (List Cell → Prop) → AS → Prop} : iterOC n s QO (.lst ds) = QO ds (fun cs => cs[n]? = some (.lst ds)) s := rfl
theorem iterOC_fz {QO : List PyData → (List Cell → Prop) → AS → Prop} : iterOC n s QO (.fz (.list ds)) = QO ds (fun _ => True) s := rfl
theorem retC_fz : retC m n P s (.fz d) = P (.f d) (s.cs.take m) := rfl
theorem retC_lst : retC m n P s (.lst ds) = P (.n (.lst ds)) (s.cs.take m) := rfl
theorem retC_dK {kd : List (Key × PyData)} : retC m n P s (.dK kd) = P (.n (.dK kd)) (s.cs.take m) := rfl
theorem retC_pool {j : Nat} : retC m n P s (.pool j) = P (.n (.pool j)) (s.cs.take m) := rfl
theorem one_1 {k1 : AVal → Prop} : one k1 [x] = k1 x := rfl
theorem two_2 {k2 : AVal → AVal → Prop} : two k2 [x, y] = k2 x y := rfl
theorem ren_r {nn : List Nat} : ren nn (.r n) = .r (nn.idxOf n) := rfl
theorem ren_d {nn : List Nat} : ren nn (.d d) = .d d := rfl
theorem ren_s {nn : List Nat} : ren nn (.s K ns) = .s K ns := rfl
theorem frzC_lst : frzC (.lst ds) = some (.list ds) := rfl
theorem frzC_dK {kd : List (Key × PyData)} : frzC (.dK kd) = some (dictD kd) := rfl
theorem frzC_fz : frzC (.fz d) = some d := rfl
theorem dataOf_d : dataOf s (.d d) = some d := rfl
theorem dataOf_r : dataOf s (.r n) = (s.cs[n]?).bind cellD := rfl
theorem flat_lst : Cell.flat (.lst ds) = true := rfl
theorem flat_dK {kd : List (Key × PyData)} : Cell.flat (.dK kd) = true := rfl
theorem flat_pool {j : Nat} : Cell.flat (.pool j) = true := rfl
theorem flat_fz : Cell.flat (.fz d) = true := rfl
theorem key?_int : (AVal.d (.int i)).key? = some (.inl i) := rfl
theorem key?_str : (AVal.d (.str z)).key? = some (.inr z) := rfl
theorem tyN_list : tyD (.list ds) = some "list" := rfl
theorem tyN_int : tyD (.int i) = some "int" := rfl
theorem tyN_bool : tyD (.bool b) = some "bool" := rfl
theorem tyN_str : tyD (.str z) = some "str" := rfl
theorem tyN_tuple : tyD (.tuple ds) = some "tuple" := rfl
theorem tyN_dictD {kd : List (Key × PyData)} : tyD (dictD kd) = some "dict" := by unfold tyD; rw [if_pos (noEx_dictD _)]; rfl
theorem tyN_none : tyD .none = some "NoneType" := rfl
theorem flatD_int : flatD (.int i) = true := rfl
theorem flatD_str : flatD (.str z) = true := rfl
theorem flatD_strs (zs : List Str) : (zs.map PyData.str).all flatD = true := by rw [List.all_map, List.all_eq_true]; intro _ _; rfl
theorem flatD_ints (is : List Int) : (is.map PyData.int).all flatD = true := by rw [List.all_map, List.all_eq_true]; intro _ _; rfl
theorem flatD_nats (is : List Nat) : (is.map fun k : Nat => PyData.int (k : Int)).all flatD = true := by rw [List.all_map, List.all_eq_true]; intro _ _; rfl
theorem inD_str (z : Str) (zs : List Str) : inD (.str z) (zs.map .str) = decide (z ∈ zs) := by
  induction zs with
  | nil => rfl
  | cons y ys ih =>
    unfold inD at ih ⊢
    rw [List.map_cons, List.any_cons, ih]
    show ((y == z) || _) = _
    by_cases h : y = z
    · subst h; simp
    · have h' : z ≠ y := fun e => h e.symm
      simp [h, h']
theorem inD_int (z : Int) (zs : List Int) : inD (.int z) (zs.map .int) = decide (z ∈ zs) := by
  induction zs with
  | nil => rfl
  | cons y ys ih =>
    unfold inD at ih ⊢
    rw [List.map_cons, List.any_cons, ih]
    show ((y == z) || _) = _
    by_cases h : y = z
    · subst h; simp
    · have h' : z ≠ y := fun e => h e.symm
      simp [h, h']
theorem inD_nat (z : Nat) (zs : List Nat) : inD (.int (z : Int)) (zs.map fun k : Nat => .int (k : Int)) = decide (z ∈ zs) := by
  have := inD_int (z : Int) (zs.map fun k : Nat => (k : Int))
  rw [List.map_map] at this
  refine this.trans (decide_eq_decide.mpr ?_)
  rw [List.mem_map]
  exact ⟨fun ⟨j, hj, e⟩ => by have : j = z := by omega
                              subst this; exact hj, fun hk => ⟨z, hk, rfl⟩⟩
end
end Kr
/-! layer A13 -/
namespace Kr
open PySem L2
/-! ## a dict that is walked: it is locked meanwhile -/
section
variable {F G H : Hp} {d b : Addr} {o o1 : HO} {es : List (Key × V)}
def IsDk (es : List (Key × V)) (o : HO) : Prop := o = .dK es ∨ ∃ od, o = .frz od (.dK es)
theorem IsDk.rd (h : IsDk es o) (e : G d = some o) : Rd G d (.dK es) := by
  rcases h with rfl | ⟨od, rfl⟩
  · exact .inl e
  · exact .inr ⟨od, e⟩
theorem Rd.inj {es2 : List (Key × V)} (h : Rd F d (.dK es)) (k : Rd F d (.dK es2)) : es2 = es := by
  rcases h with h | ⟨_, h⟩ <;> rcases k with k | ⟨_, k⟩ <;> rw [h] at k <;> cases k <;> rfl
end
end Kr
/-! layer A14 -/
namespace Kr
open PySem L2
/-! ## for x in a dict -/
def okG (ok : AS → Prop) (g : TGA) : TGA := fun x s Q => ok s ∧ g x s Q
def keysOf : PyData → Option (List PyData)
  | .dict kvs => if noExK kvs = true then some (kvs.map (·.1)) else none
  | _ => none
section
variable {X : Cx} {B : Bs} {tg iter : Expr} {body : List Stmt} {t : TSA} {g : TGA} {ks : List Nat} {pos : Pos}
def DA.unl (D : DA) (n : Nat) (c0 c : Cell) : DA := ⟨fun s => s.cs[n]? = some c0 ∧ D.nx ⟨s.sl, s.cs.set n c⟩, fun x s => s.cs[n]? = some c0 ∧ D.rt x ⟨s.sl, s.cs.set n c⟩, fun s => s.cs[n]? = some c0 ∧ D.bk ⟨s.sl, s.cs.set n c⟩, fun s => s.cs[n]? = some c0 ∧ D.ct ⟨s.sl, s.cs.set n c⟩⟩
def forDC (m n : Nat) (g : TGA) (t : TSA) (D : DA) (s : AS) : Cell → Prop
  | .dK kvs => n < m ∧ ∀ od es, forW m (okG (fun s => s.cs[n]? = some (.dl od es kvs)) g) t (D.unl n (.dl od es kvs) (.dK kvs)) (kvs.map fun p => keyD p.1) ⟨s.sl, s.cs.set n (.dl od es kvs)⟩
  | .fz y => onSome (keysOf y) fun ds => forW m (okG (fun _ => True) g) t D ds s
  | _ => False
def forDV (m : Nat) (g : TGA) (t : TSA) (D : DA) (s : AS) : AVal → Prop
  | .d y => onSome (keysOf y) fun ds => forW m (okG (fun _ => True) g) t D ds s
  | .r n => onSome s.cs[n]? (forDC m n g t D s)
  | .s _ _ => False
  | .a _ _ _ => False
def forDA (m k : Nat) (g : TGA) (t : TSA) : TSA := fun D s => onSome (s.sl[k]?.bind id) (forDV m g t D s)
end
end Kr
/-! layer A15 -/
namespace Kr
open PySem L2
/-! ## dicts: ==, !=, dict(pairs), clear -/
def dctD : PyData → Option (List (Key × PyData))
  | .dict kvs => unKV kvs
  | _ => none
def dkC : Cell → Option (List (Key × PyData))
  | .dK kvs => some kvs
  | .fz y => dctD y
  | .dl _ _ kvs => some kvs
  | _ => none
def dctOf (s : AS) : AVal → Option (List (Key × PyData))
  | .d y => dctD y
  | .r n => s.cs[n]?.bind dkC
  | .s _ _ => none
  | .a _ _ _ => none
theorem dctD_dictD {kvs : List (Key × PyData)} : dctD (dictD kvs) = some kvs := unKV_keyD kvs
def eqvKV (ks ls : List (Key × PyData)) : Bool := ks.length == ls.length && ks.all fun p => match getA ls p.1 with | some e => PyData.eqv p.2 e | none => false
section
variable {X : Cx} {B : Bs} {ad : List Addr} {F H : Hp} {s : AS} {σ : St} {x y : AVal} {u v : V}
theorem KvOk.get {kvs : List (Key × PyData)} {es : List (Key × V)} {k : Key} (h : KvOk F kvs es) : match getA kvs k with | some x => ∃ v, valV es k = some v ∧ Da F x v | none => valV es k = none := by
  unfold KvOk at h
  induction h with
  | nil => rfl
  | @cons p q ps qs h t ih =>
    by_cases hk : p.1 = k
    · have : getA (p :: ps) k = some p.2 := by simp [getA, List.find?_cons, hk]
      rw [this]
      exact ⟨q.2, valV_pos (h.1.symm.trans hk), h.2⟩
    · have e1 : getA (p :: ps) k = getA ps k := by simp [getA, List.find?_cons, hk]
      have e2 : valV (q :: qs) k = valV qs k := valV_neg (by rw [← h.1]; exact hk)
      rw [e1, e2]
      exact ih
def eqDT (neg : Bool) : AVal → AVal → TTA := fun x y s Q => onSome (dctOf s x) fun ks => onSome (dctOf s y) fun ls => ((∀ p ∈ ks, Lay 60 p.2) ∧ ∀ p ∈ ls, Lay 60 p.2) ∧ Q (eqvKV ks ls != neg) s
/-! ### dict of a list of pairs -/
def pairD : PyData → Option (Key × PyData)
  | .tuple [k, d] => (keyOf k).map fun k => (k, d)
  | _ => none
def pairsD : List PyData → Option (List (Key × PyData))
  | [] => some []
  | p :: r => (pairD p).bind fun q => (pairsD r).map (q :: ·)
def mergeA {α : Type} (kvs more : List (Key × α)) : List (Key × α) := more.foldl (fun acc kv => putA acc kv.1 kv.2) kvs
def dictN (xs : List AVal) : TNA := fun s Q => one (fun x => onSome (listOf s x) fun ds => onSome (pairsD ds) fun kvs => Q (.dK (mergeA [] kvs)) s) xs
/-- d.clear() -/
def clearD (to : TEA) : TEA := fun s Q => to s fun x s1 => onDct s1 x fun n ds => Q (.d .none) ⟨s1.sl, s1.cs.set n (.dK [])⟩
/-! ### a tuple that is walked -/
def tupL (s : AS) : AVal → Option (List PyData)
  | .d (.tuple ds) => some ds
  | _ => none
def iterT (ta : TEA) : AS → (List PyData → AS → Prop) → Prop := fun s Q => ta s fun x s1 => onSome (tupL s1 x) fun ds => Q ds s1
/-! ### how they open -/
variable {m n : Nat} {g : TGA} {t : TSA} {D : DA} {kvs : List (Key × PyData)} {ds : List PyData} {od : Obj} {es : List (Key × V)}
theorem tupL_tup : tupL s (.d (.tuple ds)) = some ds := rfl
theorem dctOf_d {d : PyData} : dctOf s (.d d) = dctD d := rfl
theorem dctOf_r : dctOf s (.r n) = s.cs[n]?.bind dkC := rfl
theorem dkC_dK : dkC (.dK kvs) = some kvs := rfl
theorem dkC_dl : dkC (.dl od es kvs) = some kvs := rfl
theorem dkC_fz {d : PyData} : dkC (.fz d) = dctD d := rfl
theorem keysOf_dictD : keysOf (dictD kvs) = some (kvs.map fun p => keyD p.1) := by
  show (if noExK (kvs.map fun p => (keyD p.1, p.2)) = true then some ((kvs.map fun p => (keyD p.1, p.2)).map (·.1)) else none) = _
  rw [if_pos (show noExK (kvs.map fun p => (keyD p.1, p.2)) = true from noEx_dictD kvs), List.map_map]
  rfl
theorem forDV_d {d : PyData} : forDV m g t D s (.d d) = onSome (keysOf d) fun ds => forW m (okG (fun _ => True) g) t D ds s := rfl
theorem forDV_r : forDV m g t D s (.r n) = onSome s.cs[n]? (forDC m n g t D s) := rfl
theorem forDC_dK : forDC m n g t D s (.dK kvs) = (n < m ∧ ∀ od es, forW m (okG (fun s => s.cs[n]? = some (.dl od es kvs)) g) t (D.unl n (.dl od es kvs) (.dK kvs)) (kvs.map fun p => keyD p.1) ⟨s.sl, s.cs.set n (.dl od es kvs)⟩) := rfl
theorem viewC_dl : viewC n (.dl od es kvs) = .dct (dkv kvs) := rfl
end
end Kr
/-! layer A16 -/
namespace Kr
open PySem L2
/-! ## [.. for x in a dict ..] -/
section
variable {X : Cx} {B : Bs} {ad : List Addr} {F H : Hp} {s : AS} {σ : St} {a : Addr} {es : List (Key × V)} {od : Obj}
def keysV : AVal → Option (List PyData)
  | .d d => keysOf d
  | _ => none
def iterD (k : Nat) : TIO := fun s Q => onSome (s.sl[k]?.bind id) fun y => onSome (keysV y) fun ds => Q ds (fun _ => True) s
end
section
variable {X : Cx} {B : Bs} {elt tg c : Expr} {scope : Scope} {pos spos py p1 : Pos} {y x : Str} {g : TGA} {tt : TTA} {te : TEA} {ks : List Nat}
theorem keysV_d {d : PyData} : keysV (.d d) = keysOf d := rfl
end
end Kr
/-! layer A17 -/
namespace Kr
open PySem L2
/-! ## a list handed in is walked, told for good or a cell that stands still -/
abbrev TIH := AS → (List PyData → (AS → Prop) → AS → Prop) → Prop
def DA.okN (D : DA) (ok : AS → Prop) : DA := { D with nx := fun s => ok s ∧ D.nx s }
def forHA (m : Nat) (ti : TIH) (g : TGA) (t : TSA) : TSA := fun D s => ti s fun ds ok s1 => forW m (okG ok g) t (D.okN ok) ds s1
section
variable {X : Cx} {B : Bs} {tg iter : Expr} {body : List Stmt} {t : TSA} {g : TGA} {ks : List Nat} {pos : Pos} {ti : TIH}
/-- the list a slot holds -/
def ihC (m n : Nat) (f : List PyData → List PyData) (s : AS) (Q : List PyData → (AS → Prop) → AS → Prop) : Cell → Prop
  | .lst ds => n < m ∧ Q (f ds) (fun s => s.cs[n]? = some (.lst ds)) s
  | .fz (.list ds) => Q (f ds) (fun _ => True) s
  | _ => False
def ihV (m : Nat) (f : List PyData → List PyData) (s : AS) (Q : List PyData → (AS → Prop) → AS → Prop) : AVal → Prop
  | .d (.list ds) => Q (f ds) (fun _ => True) s
  | .r n => onSome s.cs[n]? (ihC m n f s Q)
  | _ => False
def iterH (m : Nat) (f : List PyData → List PyData) (ta : TEA) : TIH := fun s Q => ta s fun x s1 => ihV m f s1 Q x
variable {e : Expr} {ta : TEA} {p : Pos}
variable {m n : Nat} {f : List PyData → List PyData} {s : AS} {Q : List PyData → (AS → Prop) → AS → Prop} {ds : List PyData}
theorem ihV_d : ihV m f s Q (.d (.list ds)) = Q (f ds) (fun _ => True) s := rfl
theorem ihV_r : ihV m f s Q (.r n) = onSome s.cs[n]? (ihC m n f s Q) := rfl
theorem ihC_lst : ihC m n f s Q (.lst ds) = (n < m ∧ Q (f ds) (fun s => s.cs[n]? = some (.lst ds)) s) := rfl
theorem ihC_fz : ihC m n f s Q (.fz (.list ds)) = Q (f ds) (fun _ => True) s := rfl
end
end Kr
/-! layer A18 -/
namespace Kr
open PySem L2
/-! ## trees that change -/
def Tr.put (t : Tr) : List Nat → Tr → Tr
  | [], u => u
  | i :: p, u => match t.at p with
    | some (.nd k a xs) => t.put p (.nd k a (xs.set i u))
    | _ => t
theorem cnt_nd {k : Kd} {a : Addr} {xs : List Tr} (q : Addr) : (Tr.nd k a xs).addrs.count q = (if a = q then 1 else 0) + k.more.count q + (Tr.addrsL xs).count q := by
  show (a :: (k.more ++ Tr.addrsL xs)).count q = _
  rw [List.count_cons, List.count_append]
  simp only [beq_iff_eq]
  omega
theorem cntL_cons {t : Tr} {ts : List Tr} (q : Addr) : (Tr.addrsL (t :: ts)).count q = t.addrs.count q + (Tr.addrsL ts).count q := by
  show (t.addrs ++ Tr.addrsL ts).count q = _
  rw [List.count_append]
theorem cntL_nil (q : Addr) : (Tr.addrsL []).count q = 0 := rfl
theorem cntL_app {ts us : List Tr} (q : Addr) : (Tr.addrsL (ts ++ us)).count q = (Tr.addrsL ts).count q + (Tr.addrsL us).count q := by
  induction ts with
  | nil => simp [Tr.addrsL]
  | cons t ts ih => rw [List.cons_append, cntL_cons, cntL_cons, ih]; omega
theorem addrsL_leafs (ds : List PyData) : Tr.addrsL (ds.map .d) = [] := by
  induction ds with
  | nil => rfl
  | cons d ds ih => show [] ++ _ = _; rw [ih]; rfl
theorem cntL_get {ts : List Tr} {i : Nat} {t : Tr} (h : ts[i]? = some t) (q : Addr) : t.addrs.count q ≤ (Tr.addrsL ts).count q := by
  induction ts generalizing i with
  | nil => simp at h
  | cons u ts ih =>
    rw [cntL_cons]
    cases i with
    | zero => simp at h; subst h; omega
    | succ i => have := ih (i := i) (by simpa using h); omega
theorem cntL_set {ts : List Tr} {i : Nat} {t u : Tr} (h : ts[i]? = some t) (q : Addr) : (Tr.addrsL (ts.set i u)).count q + t.addrs.count q = (Tr.addrsL ts).count q + u.addrs.count q := by
  induction ts generalizing i with
  | nil => simp at h
  | cons w ts ih =>
    cases i with
    | zero => simp at h; subst h; rw [List.set_cons_zero, cntL_cons, cntL_cons]; omega
    | succ i => rw [List.set_cons_succ, cntL_cons, cntL_cons]; have := ih (i := i) (by simpa using h); omega
theorem cntT_at {t : Tr} : ∀ {pt : List Nat} {u : Tr}, t.at pt = some u → ∀ q, u.addrs.count q ≤ t.addrs.count q
  | [], u, e, q => by cases e; exact Nat.le_refl _
  | i :: p, u, e, q => by
    unfold Tr.at at e
    split at e
    · rename_i k a xs hp
      have h1 := cntT_at hp q
      have h2 := cntL_get e q
      rw [cnt_nd] at h1
      omega
    · cases e
theorem cnt_put {t : Tr} : ∀ {pt : List Nat} {u0 u : Tr}, t.at pt = some u0 → ∀ q, (t.put pt u).addrs.count q + u0.addrs.count q = t.addrs.count q + u.addrs.count q
  | [], u0, u, e, q => by cases e; show u.addrs.count q + _ = _; omega
  | i :: p, u0, u, e, q => by
    unfold Tr.at at e
    unfold Tr.put
    split at e
    · rename_i k a xs hp
      try rw [hp]
      have h1 := cnt_put (u := .nd k a (xs.set i u)) hp q
      have h2 := cntL_set (u := u) e q
      rw [cnt_nd, cnt_nd] at h1
      try dsimp only
      omega
    · cases e
theorem root_put {t : Tr} : ∀ {pt : List Nat} {u0 u : Tr}, t.at pt = some u0 → u.root = u0.root → (t.put pt u).root = t.root
  | [], u0, u, e, h => by cases e; exact h
  | i :: p, u0, u, e, h => by
    unfold Tr.at at e
    unfold Tr.put
    split at e
    · rename_i k a xs hp
      try rw [hp]
      exact root_put hp rfl
    · cases e
theorem TrAll.set {F H : Hp} {ts : List Tr} {vs : List V} {i : Nat} {u : Tr} {w : V} (h : TrAll F H ts vs) (hw : vs[i]? = some w) (hu : TrOk F H u w) : TrAll F H (ts.set i u) vs := by
  induction ts generalizing vs i with
  | nil => simpa using h
  | cons t ts ih =>
    obtain ⟨v, r, rfl, h1, h2⟩ := (show ∃ v r, vs = v :: r ∧ TrOk F H t v ∧ TrAll F H ts r from h)
    cases i with
    | zero => simp at hw; subst hw; exact ⟨v, r, rfl, hu, h2⟩
    | succ i => exact ⟨v, r, rfl, h1, ih h2 (by simpa using hw)⟩
theorem TrAll.monoBut {F H H2 : Hp} {ts : List Tr} {vs : List V} {i : Nat} {u : Tr} (h : TrAll F H ts vs) (e : ∀ (j : Nat) (t : Tr), j ≠ i → ts[j]? = some t → ∀ q ∈ t.addrs, ∀ o, H q = some o → H2 q = some o) {w : V} (hw : vs[i]? = some w) (hu : TrOk F H2 u w) : TrAll F H2 (ts.set i u) vs := by
  induction ts generalizing vs i with
  | nil => obtain rfl := (show vs = [] from h); simp at hw
  | cons t ts ih =>
    obtain ⟨v, r, rfl, h1, h2⟩ := (show ∃ v r, vs = v :: r ∧ TrOk F H t v ∧ TrAll F H ts r from h)
    cases i with
    | zero =>
      simp at hw; subst hw
      refine ⟨v, r, rfl, hu, h2.mono (Same.refl _) fun q hq o ho => ?_⟩
      have key : ∀ (us : List Tr) (q : Addr), q ∈ Tr.addrsL us → ∃ (j : Nat) (t : Tr), us[j]? = some t ∧ q ∈ t.addrs := by
        intro us q hq
        induction us with
        | nil => cases hq
        | cons t us ih =>
          rcases List.mem_append.mp (show q ∈ t.addrs ++ Tr.addrsL us from hq) with h | h
          · exact ⟨0, t, rfl, h⟩
          · obtain ⟨j, u, h1, h2⟩ := ih h
            exact ⟨j + 1, u, by simpa using h1, h2⟩
      obtain ⟨j, t', hj, hq'⟩ := key ts q hq
      exact e (j + 1) t' (by omega) (by simpa using hj) q hq' o ho
    | succ i =>
      refine ⟨v, r, rfl, h1.mono (Same.refl _) fun q hq o ho => e 0 t (by omega) rfl q hq o ho, ih h2 (fun j t' hj ht => e (j + 1) t' (by omega) (by simpa using ht)) (by simpa using hw)⟩
theorem TrOk.put {F H H2 : Hp} {t : Tr} {v : V} (h : TrOk F H t v) (nd : ∀ q, t.addrs.count q ≤ 1) : ∀ {pt : List Nat} {u0 u : Tr} {q : Addr}, t.at pt = some u0 → u0.root = some q → u.root = some q → TrOk F H2 u (.ref q) → (∀ b o, b ∉ u0.addrs → H b = some o → H2 b = some o) → TrOk F H2 (t.put pt u) v
  | [], u0, u, q, e, h0, h1, hu, hH => by
    cases e
    cases t with
    | d _ => cases h0
    | nd k a xs => cases h0; rw [h.node.1]; exact hu
  | i :: p, u0, u, q, e, h0, h1, hu, hH => by
    unfold Tr.at at e
    unfold Tr.put
    split at e
    · rename_i k a xs hp
      try rw [hp]
      obtain ⟨w, hw⟩ := h.at hp
      obtain ⟨_, vs, g1, g2, g3⟩ := hw.node
      obtain ⟨z, hz, hz2⟩ := g3.get e
      have hzq : z = .ref q := by
        cases u0 with
        | d _ => cases h0
        | nd k0 a0 xs0 => cases h0; exact hz2.node.1
      subst hzq
      have ndn : ∀ b, (Tr.nd k a xs).addrs.count b ≤ 1 := fun b => Nat.le_trans (cntT_at hp b) (nd b)
      have off : ∀ b, b ∈ u0.addrs → (if a = b then 1 else 0) + k.more.count b = 0 ∧ (Tr.addrsL xs).count b = u0.addrs.count b := fun b hb => by
        have c1 := ndn b
        rw [cnt_nd] at c1
        have c2 := cntL_get e b
        have c3 := List.count_pos_iff.mpr hb
        omega
      have ha : a ∉ u0.addrs := fun z => by have := (off a z).1; simp at this
      refine h.put nd hp rfl rfl (TrOk.of (vs := vs) (hH a _ ha g1) ?_ ?_) fun b o hb ho => hH b o (fun z => hb ?_) ho
      · rw [List.length_set]
        refine Kd.side_mono (F := F) g2 fun b hb o ho => hH b o (fun z => ?_) ho
        have := (off b z).1
        have c := List.count_pos_iff.mpr hb
        omega
      · refine g3.monoBut (fun j t' hj ht b hb o ho => hH b o (fun z => ?_) ho) hz hu
        have c1 := (off b z).2
        have c2 := cntL_set (u := .d .none) e b
        have c3 := cntL_get (ts := xs.set i (.d .none)) (i := j) (t := t') (by rw [List.getElem?_set_ne (fun z => hj z.symm)]; exact ht) b
        have c4 := List.count_pos_iff.mpr hb
        have c5 : (Tr.d .none).addrs.count b = 0 := rfl
        omega
      · have c2 := cntL_get e b
        have c3 := List.count_pos_iff.mpr z
        refine List.count_pos_iff.mp ?_
        rw [cnt_nd]
        omega
    · cases e
theorem flat_count_set {cs : List Cell} {n : Nat} {c d : Cell} (h : cs[n]? = some c) (q : Addr) : ((cs.set n d).flatMap Cell.ads).count q + c.ads.count q = (cs.flatMap Cell.ads).count q + d.ads.count q := by
  induction cs generalizing n with
  | nil => simp at h
  | cons e cs ih =>
    cases n with
    | zero => simp at h; subst h; rw [List.set_cons_zero, List.flatMap_cons, List.flatMap_cons, List.count_append, List.count_append]; omega
    | succ n => rw [List.set_cons_succ, List.flatMap_cons, List.flatMap_cons, List.count_append, List.count_append]; have := ih (n := n) (by simpa using h); omega
theorem flat_count_get {cs : List Cell} {n : Nat} {c : Cell} (h : cs[n]? = some c) (q : Addr) : c.ads.count q ≤ (cs.flatMap Cell.ads).count q := by
  have := flat_count_set (d := .gone) h q
  have e : (Cell.gone).ads.count q = 0 := rfl
  omega
/-- trees that stand in no cell -/
structure Loose (B : Bs) (ad : List Addr) (F H : Hp) (cs : List Cell) (ls : List Tr) : Prop where
  cnt : ∀ q, (Tr.addrsL ls).count q + (cs.flatMap Cell.ads).count q ≤ 1
  off : ∀ q ∈ Tr.addrsL ls, ∀ i : Nat, ad[i]? = some q → cs[i]? = some Cell.gone
  fr : ∀ q ∈ Tr.addrsL ls, F q = none ∧ H q ≠ none
  own : ∀ q ∈ Tr.addrsL ls, q ∈ B.S ∨ q ∈ B.T ∨ B.H0 q = none
section
variable {B : Bs} {ad : List Addr} {F H : Hp} {s : AS} {σ : St} {x : AVal} {v : V} {n : Nat} {pt : List Nat} {k k' : Kd} {q p : Addr} {xs ys ls : List Tr} {t : Tr} {vs ws : List V} {cs : List Cell}
theorem nodup_cnt {l : List Addr} : l.Nodup ↔ ∀ q, l.count q ≤ 1 := List.nodup_iff_count
theorem Loose.nil (r : Rl B ad F H s σ) : Loose B ad F H s.cs [] := ⟨fun q => by rw [cntL_nil]; have := nodup_cnt.mp r.inn.nd q; omega, (fun _ h => nomatch h), (fun _ h => nomatch h), (fun _ h => nomatch h)⟩
theorem NodeAt.mem (N : NodeAt ad F H s v n pt k q xs t p vs) : q ∈ t.addrs := by
  have := cntT_at N.here q
  rw [cnt_nd, if_pos rfl] at this
  exact List.count_pos_iff.mp (by omega)
theorem side_upd {o : HO} {m : Nat} (h : k'.side H q m) (hm : q ∉ k'.more) : k'.side (upd H q o) q m := by
  cases k' with
  | obj C dx fs => exact ⟨by rw [upd_ne (fun z => hm (by simp [Kd.more, z]))]; exact h.1, h.2⟩
  | _ => exact h
/-- a node of a tree changes; loose trees go into it -/
theorem Rl.mutT (r : Rl B ad F H s σ) (L : Loose B ad F H s.cs ls) (N : NodeAt ad F H s v n pt k q xs t p vs) (hm : k'.more = k.more) (hc : ∀ b, (Tr.addrsL ys).count b ≤ (Tr.addrsL xs).count b + (Tr.addrsL ls).count b) (hw : TrAll F H ys ws) (hs : k'.side H q ys.length) :
    Rl B ad F (upd H q (k'.ho ws)) ⟨s.sl, s.cs.set n (.tr (t.put pt (.nd k' q ys)))⟩ σ := by
  have hqt := N.mem
  have hqc : q ∈ s.cs.flatMap Cell.ads := mem_ads N.cell hqt
  have tot := fun b => nodup_cnt.mp r.inn.nd b
  have tcnt : ∀ b, t.addrs.count b ≤ (s.cs.flatMap Cell.ads).count b := fun b => flat_count_get N.cell b
  have ndt : ∀ b, t.addrs.count b ≤ 1 := fun b => Nat.le_trans (tcnt b) (tot b)
  have ndn : ∀ b, (Tr.nd k q xs).addrs.count b ≤ 1 := fun b => Nat.le_trans (cntT_at N.here b) (ndt b)
  have hq1 : 1 ≤ (s.cs.flatMap Cell.ads).count q := List.count_pos_iff.mpr hqc
  have hql := L.cnt q
  have hqn := ndn q
  rw [cnt_nd, if_pos rfl] at hqn
  have hqy : q ∉ Tr.addrsL ys := fun z => by
    have := List.count_pos_iff.mpr z
    have := hc q
    omega
  have hqm : q ∉ k'.more := fun z => by
    rw [hm] at z
    have := List.count_pos_iff.mpr z
    omega
  obtain ⟨hFq, hHq⟩ := r.inn.fr q hqc
  have up : ∀ b, b ≠ q → upd H q (k'.ho ws) b = H b := fun b hb => upd_ne hb
  have cput : ∀ b, (t.put pt (.nd k' q ys)).addrs.count b ≤ t.addrs.count b + (Tr.addrsL ls).count b := fun b => by
    have h1 := cnt_put (u := .nd k' q ys) N.here b
    rw [cnt_nd, cnt_nd, hm] at h1
    have := hc b
    omega
  have hu : TrOk F (upd H q (k'.ho ws)) (.nd k' q ys) (.ref q) := TrOk.of upd_same (side_upd hs hqm) (hw.mono (Same.refl _) fun b hb o ho => by rw [up b (fun z => hqy (z ▸ hb))]; exact ho)
  have htree : TrOk F (upd H q (k'.ho ws)) (t.put pt (.nd k' q ys)) (.ref p) := N.tree.put ndt N.here rfl rfl hu fun b o hb ho => by
    rw [up b (fun z => hb (z ▸ List.mem_cons_self ..))]; exact ho
  have hroot : (t.put pt (.nd k' q ys)).root = some p := by
    rw [root_put (u := .nd k' q ys) N.here rfl]
    exact (r.cel n p _ N.root N.cell).2.2.1
  have hnl : n < s.cs.length := (List.getElem?_eq_some_iff.mp N.cell).1
  have memN : ∀ b, b ∈ (s.cs.set n (.tr (t.put pt (.nd k' q ys)))).flatMap Cell.ads → b ∈ s.cs.flatMap Cell.ads ∨ b ∈ Tr.addrsL ls := fun b hb => by
    have h1 := flat_count_set (d := .tr (t.put pt (.nd k' q ys))) N.cell b
    have h2 := cput b
    have h3 := List.count_pos_iff.mpr hb
    have h4 : (Cell.tr (t.put pt (.nd k' q ys))).ads = (t.put pt (.nd k' q ys)).addrs := rfl
    have h5 : (Cell.tr t).ads = t.addrs := rfl
    rw [h4, h5] at h1
    by_cases h6 : 0 < (s.cs.flatMap Cell.ads).count b
    · exact .inl (List.count_pos_iff.mp h6)
    · have := tcnt b
      exact .inr (List.count_pos_iff.mp (by omega))
  have inn : Inn B ad F (upd H q (k'.ho ws)) (s.cs.set n (.tr (t.put pt (.nd k' q ys)))) := by
    refine ⟨nodup_cnt.mpr fun b => ?_, fun b hb i hi => ?_, fun b hb => ?_, fun b hb => (memN b hb).elim (r.inn.own b) (L.own b), r.inn.old⟩
    · have h1 := flat_count_set (d := .tr (t.put pt (.nd k' q ys))) N.cell b
      have h2 := cput b
      have h3 := L.cnt b
      have h4 : (Cell.tr (t.put pt (.nd k' q ys))).ads = (t.put pt (.nd k' q ys)).addrs := rfl
      have h5 : (Cell.tr t).ads = t.addrs := rfl
      rw [h4, h5] at h1
      omega
    · by_cases hin : i = n
      · subst hin
        rw [N.root] at hi
        cases hi
        exact .inr ⟨_, List.getElem?_set_self hnl, hroot⟩
      · rw [List.getElem?_set_ne (fun z => hin z.symm)]
        rcases memN b hb with hb | hb
        · exact r.inn.off b hb i hi
        · exact .inl (L.off b hb i hi)
    · have : F b = none ∧ H b ≠ none := (memN b hb).elim (r.inn.fr b) (L.fr b)
      refine ⟨this.1, ?_⟩
      by_cases hbq : b = q
      · subst hbq; exact ne_none upd_same
      · rw [up b hbq]; exact this.2
  refine ⟨r.ff, same_mut r.fh hFq, fun b o hb ht e => ?_, fun b hb => ?_, r.new, r.pre, r.nd, by show ad.length = (s.cs.set n _).length; rw [List.length_set]; exact r.len, fun i b c h1 h2 => ?_, r.sln, r.slt, inn⟩
  · rw [up b (fun z => by
      subst z
      rcases r.inn.own b hqc with z | z | z
      · exact hb z
      · exact ht z
      · rw [z] at e; cases e)]
    exact r.hh b o hb ht e
  · by_cases hbq : b = q
    · subst hbq; exact ne_none upd_same
    · rw [up b hbq]; exact r.al b hb
  · by_cases hin : i = n
    · subst hin
      have h2 : (s.cs.set i (.tr (t.put pt (.nd k' q ys))))[i]? = some c := h2
      rw [List.getElem?_set_self hnl] at h2
      cases h2
      rw [N.root] at h1
      cases h1
      refine ⟨?_, (fun z => nomatch z), hroot, htree⟩
      by_cases hbq : p = q
      · subst hbq; exact ne_none upd_same
      · rw [up p hbq]; exact r.mem (List.mem_of_getElem? N.root)
    · have g2 : (s.cs.set n (.tr (t.put pt (.nd k' q ys))))[i]? = some c := h2
      rw [List.getElem?_set_ne (fun z => hin z.symm)] at g2
      obtain ⟨n0, l, ok⟩ := r.cel i b c h1 g2
      have n0' : upd H q (k'.ho ws) b ≠ none := by
        by_cases hbq : b = q
        · subst hbq; exact ne_none upd_same
        · rw [up b hbq]; exact n0
      by_cases hbq : b = q
      · subst hbq
        rcases r.inn.off b hqc i h1 with e | ⟨t', e, er⟩
        · rw [g2] at e; cases e
          exact ⟨n0', (fun z => nomatch z), trivial⟩
        · exfalso
          have hm2 : b ∈ (Cell.tr t').ads := by
            cases t' with
            | d _ => cases er
            | nd _ _ _ => cases er; exact List.mem_cons_self ..
          exact hin ((flat_nd.mp r.inn.nd).2 i n _ _ b e N.cell hm2 hqt)
      · refine ⟨n0', l, ok.mono (Ext.refl _) (Same.refl _) (fun o ho => by rw [up b hbq]; exact ho) fun b' hb' o ho => ?_⟩
        rw [up b' (fun z => by
          subst z
          exact hin ((flat_nd.mp r.inn.nd).2 i n _ _ b' g2 N.cell hb' hqt))]
        exact ho
end
end Kr
/-! layer A19 -/
namespace Kr
open PySem L2
/-! ## cells that go into trees -/
def grabC (f : Nat → Addr) (cs : List Cell) (j : Nat) : Cell → Option (Tr × List Cell)
  | .tr t => some (t, cs.set j .gone)
  | .lst ds => some (.nd .lst (f j) (ds.map .d), cs.set j .gone)
  | .dK kvs => some (.nd (.dct (kvs.map (·.1))) (f j) (kvs.map fun p => .d p.2), cs.set j .gone)
  | .fz x => some (.d x, cs)
  | _ => none
def grab (f : Nat → Addr) (cs : List Cell) : AVal → Option (Tr × List Cell)
  | .d x => some (.d x, cs)
  | .r j => (cs[j]?).bind (grabC f cs j)
  | _ => none
def grabs (f : Nat → Addr) : List Cell → List AVal → Option (List Tr × List Cell)
  | cs, [] => some ([], cs)
  | cs, x :: xs => (grab f cs x).bind fun r => (grabs f r.2 xs).map fun q => (r.1 :: q.1, q.2)
def AdF (ad : List Addr) (f : Nat → Addr) : Prop := ∀ (i : Nat) p, ad[i]? = some p → f i = p
theorem adF (ad : List Addr) : AdF ad (fun i => (ad[i]?).getD 0) := fun i p h => by show (ad[i]?).getD 0 = p; rw [h]; rfl
section
variable {B : Bs} {ad : List Addr} {F H : Hp} {s : AS} {σ : St} {x : AVal} {v : V} {n j : Nat} {pt : List Nat} {k k' : Kd} {q p : Addr} {xs ys ls ts : List Tr} {t : Tr} {vs ws : List V} {cs cs2 : List Cell} {c : Cell} {f : Nat → Addr} {sl : List (Option AVal)}
theorem Rl.dropC (r : Rl B ad F H ⟨sl, cs⟩ σ) (j : Nat) : Rl B ad F H ⟨sl, cs.set j .gone⟩ σ := by
  have sub : ∀ b, b ∈ (cs.set j .gone).flatMap Cell.ads → b ∈ cs.flatMap Cell.ads := fun b hb => (flat_set (c := .gone) rfl).subset hb
  refine ⟨r.ff, r.fh, r.hh, r.al, r.new, r.pre, r.nd, by show ad.length = (cs.set j .gone).length; rw [List.length_set]; exact r.len, fun i p c h1 h2 => ?_, r.sln, r.slt, ⟨r.inn.nd.sublist (flat_set rfl), fun b hb i hi => ?_, fun b hb => r.inn.fr b (sub b hb), fun b hb => r.inn.own b (sub b hb), r.inn.old⟩⟩
  · have h2 : (cs.set j .gone)[i]? = some c := h2
    by_cases e : i = j
    · subst e
      have hl : i < cs.length := by
        have := (List.getElem?_eq_some_iff.mp h2).1
        simpa using this
      rw [List.getElem?_set_self hl] at h2
      cases h2
      exact ⟨r.mem (List.mem_of_getElem? h1), (fun z => nomatch z), trivial⟩
    · rw [List.getElem?_set_ne (fun z => e z.symm)] at h2
      exact r.cel i p c h1 h2
  · by_cases e : i = j
    · subst e
      have hl : i < cs.length := by
        have := (List.getElem?_eq_some_iff.mp hi).1
        have := r.len
        simp only at this
        omega
      exact .inl (List.getElem?_set_self hl)
    · rw [List.getElem?_set_ne (fun z => e z.symm)]
      exact r.inn.off b (sub b hb) i hi
theorem gone_set (h : cs[n]? = some .gone) : (cs.set j .gone)[n]? = some .gone := by
  by_cases e : n = j
  · subst e; exact List.getElem?_set_self (List.getElem?_eq_some_iff.mp h).1
  · rw [List.getElem?_set_ne (fun z => e z.symm)]; exact h
theorem trAll_leafs {ds : List PyData} (h : DaAll F ds vs) : TrAll F H (ds.map .d) vs := by
  induction ds generalizing vs with
  | nil => exact h
  | cons d ds ih =>
    obtain ⟨v, r, rfl, h1, h2⟩ := (show ∃ v r, vs = v :: r ∧ Da F d v ∧ DaAll F ds r from h)
    exact ⟨v, r, rfl, h1, ih h2⟩
theorem kv_zip {kvs : List (Key × PyData)} {es : List (Key × V)} (h : KvOk F kvs es) : es = (kvs.map (·.1)).zip (es.map (·.2)) ∧ TrAll F H (kvs.map fun p => .d p.2) (es.map (·.2)) := by
  unfold KvOk at h
  induction h with
  | nil => exact ⟨rfl, rfl⟩
  | cons h t ih =>
    rename_i a b l1 l2
    refine ⟨?_, b.2, l2.map (·.2), rfl, h.2, ih.2⟩
    show b :: l2 = (a.1, b.2) :: (l1.map (·.1)).zip (l2.map (·.2))
    rw [← ih.1, h.1]
theorem grabC_ok (r : Rl B ad F H ⟨sl, cs⟩ σ) (L : Loose B ad F H cs ls) (hf : AdF ad f) (hp : ad[j]? = some p) (hc : cs[j]? = some c) (e : grabC f cs j c = some (t, cs2)) : Rl B ad F H ⟨sl, cs2⟩ σ ∧ Loose B ad F H cs2 (ls ++ [t]) ∧ TrOk F H t (.ref p) := by
  obtain ⟨n0, l, ok⟩ := r.cel j p c hp hc
  have hfj := hf j p hp
  have one : ∀ (k : Kd) (ts : List Tr), Tr.addrsL ts = [] → k.more = [] → c.live = true → t = .nd k (f j) ts → cs2 = cs.set j .gone → TrOk F H t (.ref p) → Rl B ad F H ⟨sl, cs2⟩ σ ∧ Loose B ad F H cs2 (ls ++ [t]) ∧ TrOk F H t (.ref p) := by
    intro k ts h0 hm hl et e2 ht
    subst e2
    have hads : t.addrs = [p] := by
      subst et
      show f j :: (k.more ++ Tr.addrsL ts) = _
      rw [h0, hm, hfj]; rfl
    have hca : c.ads = [] := live_ads hl
    have hpc : p ∉ cs.flatMap Cell.ads := fun z => by
      rcases r.inn.off p z j hp with e | ⟨t', e, _⟩
      · have e : cs[j]? = some .gone := e
        rw [hc] at e; cases e; cases hl
      · have e : cs[j]? = some (.tr t') := e
        rw [hc] at e; cases e; cases hl
    have hpl : p ∉ Tr.addrsL ls := fun z => by
      have e := L.off p z j hp
      rw [hc] at e; cases e; cases hl
    have hLa : ∀ b, b ∈ Tr.addrsL (ls ++ [t]) → b ∈ Tr.addrsL ls ∨ b = p := fun b hb => by
      have h1 := List.count_pos_iff.mpr hb
      rw [cntL_app, cntL_cons, cntL_nil, hads] at h1
      by_cases h2 : 0 < (Tr.addrsL ls).count b
      · exact .inl (List.count_pos_iff.mp h2)
      · refine .inr ?_
        have : 0 < [p].count b := by omega
        simpa using List.count_pos_iff.mp this
    refine ⟨r.dropC j, ⟨fun b => ?_, fun b hb i hi => ?_, fun b hb => ?_, fun b hb => ?_⟩, ht⟩
    · have h1 := flat_count_set (d := .gone) hc b
      have h2 := L.cnt b
      have h3 : (Cell.gone).ads.count b = 0 := rfl
      rw [hca] at h1
      have h4 : ([] : List Addr).count b = 0 := rfl
      rw [cntL_app, cntL_cons, cntL_nil, hads]
      by_cases e : p = b
      · subst e
        have := List.count_eq_zero.mpr hpc
        have := List.count_eq_zero.mpr hpl
        simp
        omega
      · have : [p].count b = 0 := List.count_eq_zero.mpr (by simpa using fun z => e z.symm)
        omega
    · rcases hLa b hb with hb | hb
      · exact gone_set (L.off b hb i hi)
      · subst hb
        have := nodup_get r.nd hi hp
        subst this
        exact List.getElem?_set_self (List.getElem?_eq_some_iff.mp hc).1
    · rcases hLa b hb with hb | hb
      · exact L.fr b hb
      · subst hb; exact ⟨l hl, n0⟩
    · rcases hLa b hb with hb | hb
      · exact L.own b hb
      · subst hb; exact (r.inS (List.mem_of_getElem? hp)).elim .inl fun z => .inr (.inr z)
  cases c with
  | lst ds =>
    cases e
    obtain ⟨vs, h1, h2⟩ := ok
    exact one .lst _ (addrsL_leafs ds) rfl rfl rfl rfl (by rw [hfj]; exact TrOk.of h1 trivial (trAll_leafs h2))
  | dK kvs =>
    cases e
    obtain ⟨es, h1, h2⟩ := ok
    obtain ⟨z1, z2⟩ := kv_zip (H := H) h2
    have hz : Tr.addrsL (kvs.map fun p => Tr.d p.2) = [] := by
      have := addrsL_leafs (kvs.map (·.2))
      rw [List.map_map] at this
      exact this
    have h1' : H p = some ((Kd.dct (kvs.map (·.1))).ho (es.map (·.2))) := by
      show H p = some (.dK ((kvs.map (·.1)).zip (es.map (·.2))))
      rw [← z1]; exact h1
    exact one (.dct _) _ hz rfl rfl rfl rfl (by rw [hfj]; exact TrOk.of (vs := es.map (·.2)) h1' (by show (kvs.map (·.1)).length = (kvs.map _).length; simp) z2)
  | fz y =>
    cases e
    refine ⟨r, ⟨fun b => ?_, fun b hb => ?_, fun b hb => ?_, fun b hb => ?_⟩, ok⟩
    · rw [cntL_app, cntL_cons, cntL_nil]; have := L.cnt b; have : (Tr.d y).addrs.count b = 0 := rfl; omega
    all_goals
      have hb : b ∈ Tr.addrsL ls := by
        have h1 := List.count_pos_iff.mpr hb
        rw [cntL_app, cntL_cons, cntL_nil] at h1
        have : (Tr.d y).addrs.count b = 0 := rfl
        exact List.count_pos_iff.mp (by omega)
    · exact L.off b hb
    · exact L.fr b hb
    · exact L.own b hb
  | tr t' =>
    cases e
    obtain ⟨hr, ht⟩ := ok
    have hLa : ∀ b, b ∈ Tr.addrsL (ls ++ [t]) → b ∈ Tr.addrsL ls ∨ b ∈ t.addrs := fun b hb => by
      have h1 := List.count_pos_iff.mpr hb
      rw [cntL_app, cntL_cons, cntL_nil] at h1
      by_cases h2 : 0 < (Tr.addrsL ls).count b
      · exact .inl (List.count_pos_iff.mp h2)
      · exact .inr (List.count_pos_iff.mp (by omega))
    refine ⟨r.dropC j, ⟨fun b => ?_, fun b hb i hi => ?_, fun b hb => ?_, fun b hb => ?_⟩, ht⟩
    · have h1 := flat_count_set (d := .gone) hc b
      have h2 := L.cnt b
      have h3 : (Cell.gone).ads.count b = 0 := rfl
      have h4 : (Cell.tr t).ads = t.addrs := rfl
      rw [h4] at h1
      rw [cntL_app, cntL_cons, cntL_nil]
      omega
    · rcases hLa b hb with hb | hb
      · exact gone_set (L.off b hb i hi)
      · rcases r.inn.off b (mem_ads hc hb) i hi with e | ⟨t', e, er⟩
        · exact gone_set e
        · have hm2 : b ∈ (Cell.tr t').ads := by
            cases t' with
            | d _ => cases er
            | nd _ _ _ => cases er; exact List.mem_cons_self ..
          have := (flat_nd.mp r.inn.nd).2 i j _ _ b e hc hm2 hb
          subst this
          exact List.getElem?_set_self (List.getElem?_eq_some_iff.mp hc).1
    · rcases hLa b hb with hb | hb
      · exact L.fr b hb
      · exact r.inn.fr b (mem_ads hc hb)
    · rcases hLa b hb with hb | hb
      · exact L.own b hb
      · exact r.inn.own b (mem_ads hc hb)
  | _ => cases e
theorem grab_ok (r : Rl B ad F H ⟨sl, cs⟩ σ) (L : Loose B ad F H cs ls) (hf : AdF ad f) (hv : VOk ad F x v) (e : grab f cs x = some (t, cs2)) : Rl B ad F H ⟨sl, cs2⟩ σ ∧ Loose B ad F H cs2 (ls ++ [t]) ∧ TrOk F H t v := by
  cases x with
  | s _ _ => cases e
  | a _ _ _ => cases e
  | d y =>
    cases e
    refine ⟨r, ⟨fun b => ?_, fun b hb => ?_, fun b hb => ?_, fun b hb => ?_⟩, hv⟩
    · rw [cntL_app, cntL_cons, cntL_nil]; have := L.cnt b; have : (Tr.d y).addrs.count b = 0 := rfl; omega
    all_goals
      have hb : b ∈ Tr.addrsL ls := by
        have h1 := List.count_pos_iff.mpr hb
        rw [cntL_app, cntL_cons, cntL_nil] at h1
        have : (Tr.d y).addrs.count b = 0 := rfl
        exact List.count_pos_iff.mp (by omega)
    · exact L.off b hb
    · exact L.fr b hb
    · exact L.own b hb
  | r m =>
    obtain ⟨p, hp, rfl⟩ := hv
    have e' : (cs[m]?).bind (grabC f cs m) = some (t, cs2) := e
    cases hc : cs[m]? with
    | none => rw [hc] at e'; cases e'
    | some c => rw [hc] at e'; exact grabC_ok r L hf hp hc e'
/-! ## slots that spoke of such a cell -/
def Cell.isGone : Cell → Bool
  | .gone => true
  | _ => false
def mvA (f : Nat → Addr) (cs : List Cell) (j n : Nat) (pt : List Nat) : AVal → AVal
  | .r i => if i = j ∧ (cs[j]?).map Cell.isGone = some true then .a (f j) n pt else .r i
  | .a p i pt' => if i = j ∧ (cs[j]?).map Cell.isGone = some true then .a p n (pt' ++ pt) else .a p i pt'
  | x => x
def mvS (f : Nat → Addr) (cs : List Cell) (n : Nat) (pt : List Nat) (x : AVal) (sl : List (Option AVal)) : List (Option AVal) := match x with
  | .r j => sl.map (Option.map (mvA f cs j n pt))
  | _ => sl
def mvL (f : Nat → Addr) (cs : List Cell) (n : Nat) : Nat → List AVal → List (Option AVal) → List (Option AVal)
  | _, [], sl => sl
  | i, x :: xs, sl => mvL f cs n (i + 1) xs (mvS f cs n [i] x sl)
theorem mvA_ok {ccs : List Cell} (hf : AdF ad f) {y : AVal} (h : VOk ad F y v) : VOk ad F (mvA f ccs j n pt y) v := by
  cases y with
  | d _ => exact h
  | s _ _ => exact h
  | a p i pt' =>
    show VOk ad F (if i = j ∧ _ then .a p n (pt' ++ pt) else .a p i pt') v
    split
    · exact h
    · exact h
  | r i =>
    show VOk ad F (if i = j ∧ _ then .a (f j) n pt else .r i) v
    split
    · rename_i e
      obtain ⟨p, hp, rfl⟩ := h
      show V.ref p = .ref (f j)
      rw [← e.1, hf i p hp]
    · exact h
theorem Rl.mvS {ccs : List Cell} (hf : AdF ad f) (r : Rl B ad F H ⟨sl, cs⟩ σ) (x : AVal) : Rl B ad F H ⟨mvS f ccs n pt x sl, cs⟩ σ := by
  unfold Kr.mvS
  split
  · rename_i j
    refine ⟨r.ff, r.fh, r.hh, r.al, r.new, r.pre, r.nd, r.len, r.cel, by rw [List.length_map]; exact r.sln, fun k y hy => ?_, r.inn⟩
    have hy : (sl.map (Option.map (mvA f ccs j n pt)))[k]? = some (some y) := hy
    rw [List.getElem?_map] at hy
    cases h : sl[k]? with
    | none => rw [h] at hy; cases hy
    | some o =>
      rw [h] at hy
      cases o with
      | none => cases hy
      | some z =>
        cases hy
        obtain ⟨v, h1, h2⟩ := r.slt k z h
        exact ⟨v, h1, mvA_ok hf h2⟩
  · exact r
end
/-! ## displays -/
def dspT (k : Kd) (tl : TLA) : TEA := fun s Q => tl s fun xs s1 => xs.length ≤ sizeLine ∧ ∀ f : Nat → Addr, onSome (grabs f s1.cs xs) fun r => Q (.r s1.cs.length) ⟨mvL f r.2 s1.cs.length 0 xs s1.sl, r.2 ++ [.tr (.nd k (f s1.cs.length) r.1)]⟩
section
variable {X : Cx} {B : Bs} {ad : List Addr} {F H : Hp} {s : AS} {σ : St} {x y : AVal} {u v : V} {a b c e o : Expr} {es : List Expr} {pos p2 : Pos} {ta tb tc : TEA} {tl : TLA}
/-! ## a list cell seen as a tree -/
def asTC (f : Nat → Addr) (cs : List Cell) (n : Nat) : Cell → List Cell
  | .lst ds => cs.set n (.tr (.nd .lst (f n) (ds.map .d)))
  | _ => cs
def asT (f : Nat → Addr) (cs : List Cell) : AVal → List Cell
  | .r n => ((cs[n]?).map (asTC f cs n)).getD cs
  | _ => cs
theorem Rl.asT {f : Nat → Addr} {cs : List Cell} {sl : List (Option AVal)} (r : Rl B ad F H ⟨sl, cs⟩ σ) (hf : AdF ad f) (x : AVal) : Rl B ad F H ⟨sl, asT f cs x⟩ σ := by
  cases x with
  | d _ => exact r
  | s _ _ => exact r
  | a _ _ _ => exact r
  | r n =>
    show Rl B ad F H ⟨sl, ((cs[n]?).map (asTC f cs n)).getD cs⟩ σ
    cases hc : cs[n]? with
    | none => exact r
    | some c =>
      cases c with
      | lst ds =>
        have hnl := (List.getElem?_eq_some_iff.mp hc).1
        have hal : n < ad.length := by have := r.len; simp only at this; omega
        have hp : ad[n]? = some ad[n] := List.getElem?_eq_getElem hal
        generalize ad[n] = p at hp
        obtain ⟨n0, l, vs, h1, h2⟩ := r.cel n p _ hp hc
        have hfn := hf n p hp
        have hads : (Tr.nd .lst (f n) (ds.map .d)).addrs = [p] := by
          show f n :: ([] ++ Tr.addrsL (ds.map .d)) = _
          rw [addrsL_leafs, hfn]; rfl
        show Rl B ad F H ⟨sl, cs.set n (.tr (.nd .lst (f n) (ds.map .d)))⟩ σ
        have hpc : p ∉ cs.flatMap Cell.ads := fun z => by
          rcases r.inn.off p z n hp with e | ⟨t', e, _⟩
          · have e : cs[n]? = some .gone := e
            rw [hc] at e; cases e
          · have e : cs[n]? = some (.tr t') := e
            rw [hc] at e; cases e
        have cnt : ∀ b, ((cs.set n (.tr (.nd .lst (f n) (ds.map .d)))).flatMap Cell.ads).count b = (cs.flatMap Cell.ads).count b + [p].count b := fun b => by
          have h := flat_count_set (d := .tr (.nd .lst (f n) (ds.map .d))) hc b
          have h3 : (Cell.tr (.nd .lst (f n) (ds.map .d))).ads = [p] := hads
          have h4 : (Cell.lst ds).ads.count b = 0 := rfl
          rw [h3, h4] at h
          omega
        have mem : ∀ b, b ∈ (cs.set n (.tr (.nd .lst (f n) (ds.map .d)))).flatMap Cell.ads → b ∈ cs.flatMap Cell.ads ∨ b = p := fun b hb => by
          have h := List.count_pos_iff.mpr hb
          rw [cnt] at h
          by_cases h2 : 0 < (cs.flatMap Cell.ads).count b
          · exact .inl (List.count_pos_iff.mp h2)
          · have : 0 < [p].count b := by omega
            exact .inr (by simpa using List.count_pos_iff.mp this)
        refine ⟨r.ff, r.fh, r.hh, r.al, r.new, r.pre, r.nd, by show ad.length = (cs.set n _).length; rw [List.length_set]; exact r.len, fun i b c h3 h4 => ?_, r.sln, r.slt, ⟨nodup_cnt.mpr fun b => ?_, fun b hb i hi => ?_, fun b hb => ?_, fun b hb => ?_, r.inn.old⟩⟩
        · have h4 : (cs.set n (.tr (.nd .lst (f n) (ds.map .d))))[i]? = some c := h4
          by_cases e : i = n
          · subst e
            rw [List.getElem?_set_self hnl] at h4
            cases h4
            rw [hp] at h3
            cases h3
            exact ⟨n0, (fun z => nomatch z), congrArg some hfn, by rw [hfn]; exact TrOk.of h1 trivial (trAll_leafs h2)⟩
          · rw [List.getElem?_set_ne (fun z => e z.symm)] at h4
            exact r.cel i b c h3 h4
        · rw [cnt]
          have := nodup_cnt.mp r.inn.nd b
          simp only at this
          by_cases e : p = b
          · subst e
            have := List.count_eq_zero.mpr hpc
            simp
            omega
          · have : [p].count b = 0 := List.count_eq_zero.mpr (by simpa using fun z => e z.symm)
            omega
        · by_cases e : i = n
          · subst e
            rw [hp] at hi
            cases hi
            exact .inr ⟨_, List.getElem?_set_self hnl, congrArg some hfn⟩
          · rw [List.getElem?_set_ne (fun z => e z.symm)]
            rcases mem b hb with hb | hb
            · exact r.inn.off b hb i hi
            · subst hb
              exact absurd (nodup_get r.nd hi hp) e
        · rcases mem b hb with hb | hb
          · exact r.inn.fr b hb
          · subst hb; exact ⟨l rfl, n0⟩
        · rcases mem b hb with hb | hb
          · exact r.inn.own b hb
          · subst hb; exact (r.inS (List.mem_of_getElem? hp)).elim .inl fun z => .inr (.inr z)
      | _ => exact r
/-! ## lists in trees change -/
def treeC : Cell → Option Tr
  | .tr t => some t
  | _ => none
def treeAt (cs : List Cell) (n : Nat) : Option Tr := (cs[n]?).bind treeC
theorem treeAt_of {cs : List Cell} {n : Nat} {t : Tr} (h : cs[n]? = some (.tr t)) : treeAt cs n = some t := by unfold treeAt; rw [h]; rfl
/-- a list node of a tree -/
def onT (s : AS) (x : AVal) (k : Nat → List Nat → Addr → List Tr → Tr → Prop) : Prop := onSome (nodeAt s x) fun N => N.2.2.1 = .lst ∧ onSome (treeAt s.cs N.1) fun t => k N.1 N.2.1 N.2.2.2.1 N.2.2.2.2 t
theorem onT_ok {k : Nat → List Nat → Addr → List Tr → Tr → Prop} (r : Rl B ad F H s σ) (hx : VOk ad F x u) (h : onT s x k) : ∃ n pt q ts t p vs, NodeAt ad F H s u n pt .lst q ts t p vs ∧ k n pt q ts t := by
  obtain ⟨⟨n, pt, kd, q, ts⟩, hn, hk, t, ht, h⟩ := h
  have hk : kd = .lst := hk
  subst hk
  obtain ⟨t', p, vs, N⟩ := nodeAt_ok r hx hn
  have : t' = t := by
    have := treeAt_of N.cell
    rw [show treeAt s.cs n = some t from ht] at this
    exact (Option.some.inj this).symm
  subst this
  exact ⟨n, pt, q, ts, t', p, vs, N, h⟩
def putT (s : AS) (n : Nat) (pt : List Nat) (q : Addr) (t : Tr) (ys : List Tr) : AS := ⟨s.sl, s.cs.set n (.tr (t.put pt (.nd .lst q ys)))⟩
theorem Post.putT {Q : VQ} {d : PyData} {n : Nat} {pt : List Nat} {q p : Addr} {ts ys ls : List Tr} {t : Tr} {vs ws : List V} (r : Rl B ad F H s σ) (L : Loose B ad F H s.cs ls) (N : NodeAt ad F H s u n pt .lst q ts t p vs) (hc : ∀ b, (Tr.addrsL ys).count b ≤ (Tr.addrsL ts).count b + (Tr.addrsL ls).count b) (hw : TrAll F H ys ws) (hv : Da F d v) (h : Q (.d d) (putT s n pt q t ys)) : Post B ad F σ Q v (upd H q (.lst ws)) :=
  ⟨ad, F, .d d, _, Ext.refl _, Same.refl _, r.mutT (k' := .lst) L N rfl hc hw trivial, hv, h⟩
theorem TrAll.append {F H : Hp} : ∀ {ts us : List Tr} {vs ws : List V}, TrAll F H ts vs → TrAll F H us ws → TrAll F H (ts ++ us) (vs ++ ws)
  | [], _, _, _, h, h' => by obtain rfl := (show _ = [] from h); exact h'
  | t :: ts, us, vs, ws, h, h' => by
    obtain ⟨v, r, rfl, h1, h2⟩ := (show ∃ v r, vs = v :: r ∧ TrOk F H t v ∧ TrAll F H ts r from h)
    exact ⟨v, r ++ ws, rfl, h1, TrAll.append h2 h'⟩
def appendT (x : AVal) (xs : List AVal) : TEA := fun s Q => one (fun y => ∀ f : Nat → Addr, onSome (grab f (asT f s.cs x) y) fun r => onT ⟨s.sl, r.2⟩ x fun n pt q ts t => ts.length < sizeLine ∧ Q (.d .none) (putT ⟨mvS f r.2 n (ts.length :: pt) y s.sl, r.2⟩ n pt q t (ts ++ [r.1]))) xs
theorem m_appendT : MtA X B "list.append" appendT := fun ad F H s σ x xs u us Q r hx hp t => by
  obtain ⟨y, w, rfl, rfl, hy, t⟩ := one_ok t hp
  have hf := adF ad
  obtain ⟨⟨tr, cs2⟩, hg, t⟩ := t _
  have r0 := r.asT hf x
  obtain ⟨r1, L1, t1⟩ := grab_ok r0 (Loose.nil r0) hf hy hg
  obtain ⟨n, pt, q, ts, t0, p, vs, N, hz, qq⟩ := onT_ok r1 hx t
  have r2 := r1.mvS (ccs := cs2) (n := n) (pt := ts.length :: pt) hf y
  have hval := N.val
  subst hval
  have N2 : NodeAt ad F H ⟨mvS (fun i => (ad[i]?).getD 0) cs2 n (ts.length :: pt) y s.sl, cs2⟩ (.ref q) n pt .lst q ts t0 p vs := ⟨N.cell, N.root, N.here, rfl, N.ho, N.side, N.kids, N.tree⟩
  refine ⟨_, mt_append, q, vs, w, rfl, rfl, N.ho, by rw [N.kids.length]; exact hz, Post.putT (d := .none) r2 L1 N2 (fun b => ?_) (N.kids.append (us := [tr]) (ws := [w]) (show ∃ v r, [w] = v :: r ∧ TrOk F H tr v ∧ TrAll F H [] r from ⟨w, [], rfl, t1, rfl⟩)) rfl qq⟩
  rw [cntL_app, List.nil_append]
  exact Nat.le_refl _
def clearT (x : AVal) (xs : List AVal) : TEA := fun s Q => onT s x fun n pt q ts t => Q (.d .none) (putT s n pt q t [])
def extendT (x : AVal) (xs : List AVal) : TEA := fun s Q => one (fun y => onT s x fun n pt q ts t => onSome (listOf s y) fun es => ts.length + es.length ≤ sizeLine ∧ Q (.d .none) (putT s n pt q t (ts ++ es.map .d))) xs
/-! ## x[i] = v -/
def putLC (D : DA) (s : AS) (n : Nat) (i : Int) (d : PyData) : Cell → Prop
  | .lst ds => onSome (ixN ds.length i) fun j => D.nx ⟨s.sl, s.cs.set n (.lst (ds.set j d))⟩
  | .tr (.nd .lst q ts) => onSome (ixN ts.length i) fun j => D.nx (putT s n [] q (.nd .lst q ts) (ts.set j (.d d)))
  | _ => False
def putLV (D : DA) (s : AS) (i : Int) (d : PyData) : AVal → Prop
  | .r n => onSome s.cs[n]? (putLC D s n i d)
  | .a p n pt => onT s (.a p n pt) fun n pt q ts t => onSome (ixN ts.length i) fun j => D.nx (putT s n pt q t (ts.set j (.d d)))
  | _ => False
def putL (tv to ti : TEA) : TSA := fun D s => tv s fun v s1 => to s1 fun x s2 => ti s2 fun y s3 => onSome y.int? fun i => onSome v.data? fun d => putLV D s3 i d x
theorem DaAll.setAt {ds : List PyData} {d : PyData} {w : V} (hd : Da F d w) : ∀ {ds : List PyData} {vs : List V} (j : Nat), DaAll F ds vs → DaAll F (ds.set j d) (vs.set j w)
  | [], _, j, h => by obtain rfl := (show _ = [] from h); exact daAll_nil
  | d0 :: ds, _, j, h => by
    obtain ⟨v0, r, rfl, h1, h2⟩ := (show ∃ v r, _ = v :: r ∧ Da F d0 v ∧ DaAll F ds r from h)
    cases j with
    | zero => exact daAll_cons hd h2
    | succ j => exact daAll_cons h1 (DaAll.setAt (ds := ds) hd j h2)
theorem TrAll.setAt {d : PyData} {w : V} (hd : Da F d w) : ∀ {ts : List Tr} {vs : List V} (j : Nat), TrAll F H ts vs → TrAll F H (ts.set j (.d d)) (vs.set j w)
  | [], _, j, h => by obtain rfl := (show _ = [] from h); exact rfl
  | t :: ts, vs, j, h => by
    obtain ⟨v0, r, rfl, h1, h2⟩ := (show ∃ v r, vs = v :: r ∧ TrOk F H t v ∧ TrAll F H ts r from h)
    cases j with
    | zero => exact ⟨w, r, rfl, hd, h2⟩
    | succ j => exact ⟨v0, r.set j w, rfl, h1, TrAll.setAt hd j h2⟩
theorem ixN_lt {n : Nat} {i : Int} {j : Nat} (h : ixN n i = some j) : j < n := by
  unfold ixN at h
  split at h
  · split at h
    · cases h; omega
    · cases h
  · split at h
    · cases h; omega
    · cases h
theorem sa_putL (hv : EA X B c tc) (ho : EA X B o ta) (hi : EA X B e tb) (hs : swapsWithSole [.Subscript o e p2] c pos.line X.env = pure false := by rfl) (hw : swappedStores [.Subscript o e p2] c X.env = pure none := by rfl)
    (h1 : (assignEach [.Subscript o e p2] X.env).map (·.2) = [assign (.Subscript o e p2) X.env] := by rfl)
    (ha : ∀ v, assign (.Subscript o e p2) X.env v = (do
      let ov ← holding [v] (eval o X.env)
      let iv ← holding [v, ov] (eval e X.env)
      standAt p2
      holding [v, ov, iv] (setItem ov iv v)
      release [v, ov, iv] []) := by intro _; rfl) : SA X B (.Assign [.Subscript o e p2] c pos) (putL tc ta tb) := ⟨fun D s h ad F H σ r =>
  ws_of (ps_asg pe_we (pg_sub pe_we pe_we set_list ha) hs hw h1) ((hv.run ad F H s σ _ r h).imp fun w H1 q => by
    obtain ⟨ad1, F1, v, s1, e1, k1, r1, hv1, q⟩ := q
    refine (ho.run ad1 F1 H1 s1 σ _ r1 q).imp fun u H2 q => ?_
    obtain ⟨ad2, F2, x, s2, e2, k2, r2, hx, q⟩ := q
    refine (hi.run ad2 F2 H2 s2 σ _ r2 q).imp fun z H3 q => ?_
    obtain ⟨ad3, F3, y, s3, e3, k3, r3, hy, i, ei, d, ed, qq⟩ := q
    have := AVal.int?_of ei
    subst this
    have := AVal.data?_of ed
    subst this
    obtain rfl : z = .int i := hy
    have hd : Da F3 d w := Da.mono (k2.trans k3) hv1
    have hx3 := hx.mono e3 k3
    have node : ∀ {n pt q ts t p vs}, NodeAt ad3 F3 H3 s3 u n pt .lst q ts t p vs → (onSome (ixN ts.length i) fun j => D.nx (putT s3 n pt q t (ts.set j (.d d)))) → rSetL u (.int i) w H3 fun H3 => (liftD B D).nx σ H3 := fun {n pt q ts t p vs} N h => by
      obtain ⟨j, hj, h⟩ := h
      have hval := N.val
      subst hval
      refine ⟨q, vs, i, j, rfl, rfl, N.ho, by rw [N.kids.length]; exact hj, ad3, F3, _, r3.mutT (k' := .lst) (Loose.nil r3) N rfl (fun b => ?_) (N.kids.setAt hd j) trivial, h⟩
      have hjl := ixN_lt hj
      have hg : ts[j]? = some ts[j] := List.getElem?_eq_getElem hjl
      have := cntL_set (u := .d d) hg b
      have : (Tr.d d).addrs.count b = 0 := rfl
      omega
    cases x with
    | d _ => exact qq.elim
    | s _ _ => exact qq.elim
    | a p n pt =>
      obtain ⟨n', pt', q', ts, t0, p', vs, N, h⟩ := onT_ok (k := fun n pt q ts t => onSome (ixN ts.length i) fun j => D.nx (putT s3 n pt q t (ts.set j (.d d)))) r3 hx3 qq
      exact node N h
    | r n =>
      obtain ⟨c, hc, qq⟩ := qq
      obtain ⟨p, hp, rfl⟩ := hx3
      cases c with
      | lst ds =>
        obtain ⟨j, hj, qq⟩ := qq
        obtain ⟨_, _, vs, g1, g2⟩ := r3.cel n p _ hp hc
        exact ⟨p, vs, i, j, rfl, rfl, g1, by rw [g2.length]; exact hj, ad3, F3, _, r3.put (c := .lst (ds.set j d)) hp hc rfl ⟨_, upd_same, DaAll.setAt (ds := ds) hd j g2⟩, qq⟩
      | tr t => cases t with
        | d _ => exact qq.elim
        | nd k q0 ts => cases k with
          | lst =>
            obtain ⟨_, _, g1, g2⟩ := r3.cel n p _ hp hc
            cases g1
            obtain ⟨_, vs, g3, g4, g5⟩ := g2.node
            exact node (n := n) (pt := []) (q := p) (ts := ts) (t := .nd .lst p ts) (p := p) (vs := vs) ⟨hc, hp, rfl, rfl, g3, g4, g5, g2⟩ qq
          | tup => exact qq.elim
          | dct _ => exact qq.elim
          | dctT _ => exact qq.elim
          | obj _ _ _ => exact qq.elim
      | _ => exact qq.elim)⟩
end
section
variable {f : Nat → Addr} {cs : List Cell} {j n i : Nat} {pt : List Nat} {p : Addr} {K : PySem.W.Frag} {ns : List Int} {d : PyData} {sl : List (Option AVal)}
theorem mvA_r : mvA f cs j n pt (.r i) = if i = j ∧ (cs[j]?).map Cell.isGone = some true then .a (f j) n pt else .r i := rfl
theorem mvA_a {pt' : List Nat} : mvA f cs j n pt (.a p i pt') = if i = j ∧ (cs[j]?).map Cell.isGone = some true then .a p n (pt' ++ pt) else .a p i pt' := rfl
theorem mvA_d : mvA f cs j n pt (.d d) = .d d := rfl
theorem mvA_s : mvA f cs j n pt (.s K ns) = .s K ns := rfl
theorem mvS_r : mvS f cs n pt (.r j) sl = sl.map (Option.map (mvA f cs j n pt)) := rfl
theorem mvS_d : mvS f cs n pt (.d d) sl = sl := rfl
theorem mvS_a {m : Nat} {pt' : List Nat} : mvS f cs n pt (.a p m pt') sl = sl := rfl
theorem gone_gone : Cell.isGone .gone = true := rfl
theorem gone_fz : Cell.isGone (.fz d) = false := rfl
theorem gone_tr {t : Tr} : Cell.isGone (.tr t) = false := rfl
theorem gone_lst {ds : List PyData} : Cell.isGone (.lst ds) = false := rfl
theorem at_nil {t : Tr} : t.at [] = some t := rfl
theorem at_cons {t : Tr} : t.at (i :: pt) = match t.at pt with | some (.nd _ _ xs) => xs[i]? | _ => none := rfl
theorem put_nil {t u : Tr} : t.put [] u = u := rfl
theorem put_cons {t u : Tr} : t.put (i :: pt) u = match t.at pt with | some (.nd k a xs) => t.put pt (.nd k a (xs.set i u)) | _ => t := rfl
end
end Kr
/-! layer A20 -/
namespace Kr
open PySem L2
/-! ## a tree is told for good -/
def Cell.plain : Cell → Bool
  | .gone => false
  | .tr _ => false
  | _ => true
section
variable {X : Cx} {B : Bs} {ad : List Addr} {F H : Hp} {s : AS} {σ : St} {x y : AVal} {u v : V} {a b c e o : Expr} {es : List Expr} {pos p2 : Pos} {ta tb tc : TEA} {tl : TLA}
def fzTC (m n : Nat) (s : AS) (Q : VQ) : Cell → Prop
  | .fz d => Q (.d d) s
  | .lst ds => m ≤ n ∧ Q (.d (.list ds)) ⟨s.sl, s.cs.set n (.fz (.list ds))⟩
  | .dK ds => m ≤ n ∧ Q (.d (dictD ds)) ⟨s.sl, s.cs.set n (.fz (dictD ds))⟩
  | .tr t => (m ≤ n ∧ (s.cs.take m).all Cell.plain = true) ∧ onSome t.data? fun d => Q (.d d) ⟨s.sl, s.cs.set n (.fz d)⟩
  | _ => False
def fzTV (m : Nat) (s : AS) (Q : VQ) : AVal → Prop
  | .d x => Q (.d x) s
  | .r n => onSome s.cs[n]? (fzTC m n s Q)
  | _ => False
def fzT (m k : Nat) : TEA := fun s Q => onSome (s.sl[k]?.bind id) (fzTV m s Q)
/-! ## a def to which no trees are handed -/
def bodyT0 (k : Nat) (t : Nat → TSA) : SpT := fun xs cs P => cs.flatMap Cell.ads = [] ∧ t cs.length (retD cs.length P) ⟨xs.map some ++ List.replicate k none, cs⟩
end
section
variable {X : Cx} {B : Bs} {ad : List Addr} {F H : Hp} {s : AS} {σ : St} {x y : AVal} {u v : V} {a b c e o : Expr} {es : List Expr} {pos p p2 : Pos} {ta tb tc : TEA} {tl : TLA} {k n : Nat} {f : Addr} {fd : FuncData} {ps : List Str} {t : SpT}
/-! ## a, b = f(..): the tuple told is taken apart -/
def two2 (g1 g2 : TGA) : List AVal → AS → (AS → Prop) → Prop := fun xs s Q => match xs with
  | [x, y] => g1 x s fun s1 => g2 y s1 Q
  | _ => False
/-! ## further list words -/
def insertA (x : AVal) (xs : List AVal) : TEA := fun s Q => two (fun y z => onLst s x fun n ds => onSome y.int? fun i => onSome z.data? fun d => (ds.length < sizeLine ∧ 0 ≤ i ∧ i < 2 ^ 63) ∧ Q (.d .none) ⟨s.sl, s.cs.set n (.lst (ds.take i.toNat ++ [d] ++ ds.drop i.toNat))⟩) xs
def revN (ta : TEA) : TNA := fun s Q => ta s fun x s1 => onSome (listOf s1 x) fun ds => Q (.lst ds.reverse) s1
theorem DaAll.rev : ∀ {ds : List PyData} {vs : List V}, DaAll F ds vs → DaAll F ds.reverse vs.reverse
  | [], _, h => by obtain rfl := (show _ = [] from h); exact daAll_nil
  | d :: ds, _, h => by
    obtain ⟨v, r, rfl, h1, h2⟩ := (show ∃ v r, _ = v :: r ∧ Da F d v ∧ DaAll F ds r from h)
    rw [List.reverse_cons, List.reverse_cons]
    exact (DaAll.rev h2).snoc h1
theorem en_rev {kk : Nat} {p1 p2 p3 : Pos} (ha : EA X B a ta) : EN X B (.Subscript a (.Slice none none (some (.UnaryOp .USub (.Constant (.int 1) kk p1) p2)) p3) pos) (revN ta) := ⟨fun ad F H s σ Q r t =>
  we_of (pe_revL pe_we) ((ha.run ad F H s σ _ r t).imp fun v H1 q => by
    obtain ⟨ad1, F1, x, s1, e1, k1, r1, hv, ds, hds, q⟩ := q
    obtain ⟨l, vs, rfl, h1, h2⟩ := hv.list r1 hds
    exact ⟨l, vs, rfl, SqL.of h1, fun p hp => (PostN.here (c := .lst ds.reverse) r1 hp ⟨_, upd_same, h2.rev⟩ rfl q).up e1 k1⟩)⟩
/-- list(range(n)) -/
def listR1 (ta : TEA) : TNA := fun s Q => ta s fun x s1 => onSome x.int? fun n => (0 ≤ n ∧ n ≤ 16777216) ∧ Q (.lst (intsD 0 n)) s1
/-- a sign, some times or not at all -/
def repZ (x : Str) (n : Int) : Str := if n < 1 then Str.empty else repS x n
theorem op_repZ : OpR X (binaryOp .Mult) (fun x y H Q => ∃ z n, x = V.str z ∧ y = V.int n ∧ -1000 ≤ n ∧ n ≤ 1000 ∧ z.length = 1 ∧ Q (.str (repZ z n)) H) := by
  intro pins s σ H x y v u Q I rx ry h
  obtain ⟨z, n, rfl, rfl, h0, h2, hz, q⟩ := h
  by_cases h1 : 1 ≤ n
  · refine op_repS pins s σ H _ _ v u Q I rx ry ⟨z, n, rfl, rfl, h1, h2, hz, ?_⟩
    unfold repZ at q
    rw [if_neg (by omega)] at q
    exact q
  · obtain ⟨t, rfl⟩ := rx
    obtain ⟨t', rfl⟩ := ry
    refine PySem.P.mul_str_none (by omega) (by omega) ?_
    unfold repZ at q
    rw [if_pos (by omega)] at q
    exact ⟨.str _, H, I.tok _, ⟨_, rfl⟩, q⟩
def mulX : AVal → AVal → TEA := fun x y s Q => match x with
  | .d (.str z) => onSome y.int? fun n => (-1000 ≤ n ∧ n ≤ 1000 ∧ z.length = 1) ∧ Q (.d (.str (repZ z n))) s
  | x => mulA x y s Q
theorem o_mulX : OpA X B (binaryOp .Mult) mulX := fun ad F H s σ x y u v Q r hx hy t => by
  unfold mulX at t
  split at t
  · rename_i z
    obtain ⟨n, en, ⟨h1, h2, h3⟩, q⟩ := t
    have := AVal.int?_of en
    subst this
    exact ⟨_, op_repZ, z, n, hx, hy, h1, h2, h3, .here (x := .d (.str (repZ z n))) r rfl q⟩
  · exact o_mul ad F H s σ _ y u v Q r hx hy t
theorem mulX_int {i : Int} {s : AS} {Q : VQ} : mulX (.d (.int i)) y s Q = onSome y.int? fun j => CMul i j ∧ Q (.d (.int (i * j))) s := rfl
theorem mulX_str {z : Str} {s : AS} {Q : VQ} : mulX (.d (.str z)) y s Q = onSome y.int? fun n => (-1000 ≤ n ∧ n ≤ 1000 ∧ z.length = 1) ∧ Q (.d (.str (repZ z n))) s := rfl
theorem mulX_lst {ds : List PyData} {s : AS} {Q : VQ} : mulX (.d (.list ds)) y s Q = onSome y.int? fun n => (-(2 ^ 63) ≤ n ∧ n < 2 ^ 63 ∧ ds.length * n.toNat ≤ sizeLine) ∧ Q (.d (.list (repL n ds))) s := mulA_lst
theorem mulX_r {m : Nat} {s : AS} {Q : VQ} : mulX (.r m) y s Q = onSome (listOf s (.r m)) fun ds => onSome y.int? fun n => (-(2 ^ 63) ≤ n ∧ n < 2 ^ 63 ∧ ds.length * n.toNat ≤ sizeLine) ∧ Q (.d (.list (repL n ds))) s := rfl
end
/-! ## statements one behind the other, opened up to a test -/
section
variable {t u : TSA} {D : DA} {s : AS} {te tf tg : TEA} {g : TGA} {k m : Nat}
theorem cutA (J : AS → Prop) (h1 : ∀ M, (∀ s', J s' → M s') → t ⟨M, D.rt, D.bk, D.ct⟩ s) (h2 : ∀ s', J s' → u D s') : seqA t u D s := h1 (u D) h2
theorem seq_set : seqA (setA k te) u D s = te s fun x s1 => u D ⟨s1.sl.set k (some x), s1.cs⟩ := rfl
theorem seq_drop : seqA (dropA te) u D s = te s fun _ s1 => u D s1 := rfl
theorem seq_asg : seqA (asgA te g) u D s = te s fun x s1 => g x s1 (u D) := rfl
theorem seq_next : seqA nextA u D s = u D s := rfl
theorem seq_callU {t : SpT} {tl : TLA} {gg : List AVal → AS → (AS → Prop) → Prop} : seqA (callU t tl gg) u D s = tl s fun xs s1 => callW t xs s1 (resU (refsOf xs) fun ys s2 => gg ys s2 (u D)) := rfl
theorem seq_putS : seqA (putS te tf tg) u D s = te s fun v s1 => tf s1 fun x s2 => tg s2 fun y s3 => onDct s3 x fun n ds => onSome y.key? fun k => onSome v.data? fun d => ds.length < sizeLine ∧ u D ⟨s3.sl, s3.cs.set n (.dK (putA ds k d))⟩ := rfl
theorem seq_putL : seqA (putL te tf tg) u D s = te s fun v s1 => tf s1 fun x s2 => tg s2 fun y s3 => onSome y.int? fun i => onSome v.data? fun d => putLV ⟨u D, D.rt, D.bk, D.ct⟩ s3 i d x := rfl
theorem seq_for {ti : AS → (List PyData → AS → Prop) → Prop} : seqA (forA m ti g t) u D s = ti s fun ds s1 => forW m g t ⟨u D, D.rt, D.bk, D.ct⟩ ds s1 := rfl
theorem seq_forD : seqA (forDA m k g t) u D s = onSome (s.sl[k]?.bind id) (forDV m g t ⟨u D, D.rt, D.bk, D.ct⟩ s) := rfl
theorem seq_forH {ti : TIH} : seqA (forHA m ti g t) u D s = forHA m ti g t ⟨u D, D.rt, D.bk, D.ct⟩ s := rfl
theorem seq_aug {gg : Int → Int → Int} : seqA (augS gg te tf tg) u D s = augS gg te tf tg ⟨u D, D.rt, D.bk, D.ct⟩ s := rfl
theorem seq_seq {t' : TSA} : seqA (seqA t t') u D s = seqA t (seqA t' u) D s := rfl
end
/-! ## == [] of a list of trees -/
def emptyC : Cell → Option Bool
  | .lst ds => some ds.isEmpty
  | .fz (.list ds) => some ds.isEmpty
  | .tr (.nd .lst _ ts) => some ts.isEmpty
  | _ => none
def emptyV (s : AS) : AVal → Option Bool
  | .r n => (s.cs[n]?).bind emptyC
  | .d (.list ds) => some ds.isEmpty
  | _ => none
def nilTT (neg : Bool) (ta : TEA) : TTA := fun s Q => ta s fun x s1 => onSome (emptyV s1 x) fun b => Q (b != neg) s1
section
variable {X : Cx} {B : Bs} {ad : List Addr} {F H : Hp} {s : AS} {σ : St} {x y : AVal} {u v : V} {a : Expr} {pos : Pos} {ta : TEA}
theorem emptyV_r {n : Nat} : emptyV s (.r n) = (s.cs[n]?).bind emptyC := rfl
theorem emptyC_l {ds : List PyData} : emptyC (.lst ds) = some ds.isEmpty := rfl
theorem emptyC_t {q : Addr} {ts : List Tr} : emptyC (.tr (.nd .lst q ts)) = some ts.isEmpty := rfl
end
end Kr
/-! layer A21 -/
namespace Kr
open PySem L2
/-! ## is None, is True -/
def noneV : AVal → Option Bool
  | .d .none => some true
  | .d _ => some false
  | .r _ => some false
  | .a _ _ _ => some false
  | .s _ _ => none
def isNT (neg : Bool) : AVal → AVal → TTA := fun x y s Q => y = .d .none ∧ onSome (noneV x) fun b => Q (b != neg) s
def isBT (neg : Bool) : AVal → AVal → TTA := fun x y s Q => onSome x.bool? fun b => onSome y.bool? fun c => Q (decide (b = c) != neg) s
section
variable {X : Cx} {B : Bs} {ad : List Addr} {F H : Hp} {s : AS} {σ : St} {x y : AVal} {u v : V}
theorem noneV_ok {b : Bool} (h : VOk ad F x v) (e : noneV x = some b) : decide (v = .non) = b := by
  cases x with
  | s _ _ => cases e
  | a _ _ _ => cases e; obtain rfl := (show v = .ref _ from h); rfl
  | r n => cases e; obtain ⟨a, _, rfl⟩ := h; rfl
  | d d =>
    cases d with
    | none => cases e; obtain rfl := (show v = .non from h); rfl
    | bool _ => cases e; obtain rfl := (show v = .bl _ from h); rfl
    | int _ => cases e; obtain rfl := (show v = .int _ from h); rfl
    | str _ => cases e; obtain rfl := (show v = .str _ from h); rfl
    | list _ => cases e; obtain ⟨a, xs, rfl, _⟩ := h; rfl
    | tuple _ => cases e; obtain ⟨a, xs, rfl, _⟩ := h; rfl
    | dict _ =>
      cases e
      rcases (show (∃ a es, v = .ref a ∧ _) ∨ ExV F _ v from h) with ⟨a, xs, rfl, _⟩ | ⟨a, C, dx, y, _, rfl, _⟩ <;> rfl
theorem o_isN : OpT X B (compareOp .Is) (isNT false) := fun ad F H s σ x y u v Q r hx hy ⟨ey, b, eb, q⟩ => by
  subst ey
  obtain rfl := (show v = .non from hy)
  refine ⟨_, _, q, op_isN, fun K k => ⟨rfl, ?_⟩⟩
  rw [noneV_ok hx eb]
  simpa using k
theorem o_notN : OpT X B (compareOp .IsNot) (isNT true) := fun ad F H s σ x y u v Q r hx hy ⟨ey, b, eb, q⟩ => by
  subst ey
  obtain rfl := (show v = .non from hy)
  refine ⟨_, _, q, op_notN, fun K k => ⟨rfl, ?_⟩⟩
  rw [noneV_ok hx eb]
  simpa using k
theorem noneV_none : noneV (.d .none) = some true := rfl
theorem noneV_list {ds : List PyData} : noneV (.d (.list ds)) = some false := rfl
theorem noneV_r {n : Nat} : noneV (.r n) = some false := rfl
/-! ## in a list of lists -/
/-! ## tuples told for good: t + u, t[i:], t[:i] -/
def tupD : AVal → Option (List PyData)
  | .d (.tuple ds) => some ds
  | _ => none
def tcatA : AVal → AVal → TEA := fun x y s Q => onSome (tupD x) fun ds => onSome (tupD y) fun es => ds.length + es.length ≤ sizeLine ∧ Q (.d (.tuple (ds ++ es))) s
def tslA (lo hi : Option Int) (x : AVal) : TEA := fun s Q => onSome (tupD x) fun ds => Q (.d (.tuple (cutD ds lo hi))) s
def tslHi (ta tb : TEA) : TEA := fun s Q => ta s fun x s1 => tb s1 fun y s2 => onSome y.int? fun i => tslA none (some i) x s2 Q
def tslLo (ta tb : TEA) : TEA := fun s Q => ta s fun x s1 => tb s1 fun y s2 => onSome y.int? fun i => tslA (some i) none x s2 Q
theorem tupD_t {ds : List PyData} : tupD (.d (.tuple ds)) = some ds := rfl
end
end Kr
/-! layer A22 -/
namespace Kr
open PySem L2
/-! ## sorted of a list of any data that are alike -/
section
variable {X : Cx} {B : Bs} {ad : List Addr} {F H : Hp} {s : AS} {σ : St} {x y : AVal} {u v : V}
def sortedDN (xs : List AVal) : TNA := fun s Q => one (fun x => onSome (listOf s x) fun ds => (PySem.W.AllAlike ds ∧ PySem.W.Sortable ds ∧ ∀ d ∈ ds, d.canLay0 = true ∧ d.depth ≤ 60) ∧ Q (.lst (ds.mergeSort (PySem.W.dataLe false id))) s) xs
/-! ## list(dict) -/
def listDV (s : AS) (Q : Cell → AS → Prop) : View → Prop
  | .dct kvs => Q (.lst (kvs.map fun kv => keyD kv.1)) s
  | _ => False
def listDN (xs : List AVal) : TNA := fun s Q => one (fun x => listDV s Q (view s x)) xs
theorem listDN_V {Q : Cell → AS → Prop} : listDN [x] s Q = listDV s Q (view s x) := rfl
theorem listDV_dct {Q : Cell → AS → Prop} {kvs : List (Key × AVal)} : listDV s Q (.dct kvs) = Q (.lst (kvs.map fun kv => keyD kv.1)) s := rfl
theorem sortedDN_1 {Q : Cell → AS → Prop} : sortedDN [x] s Q = onSome (listOf s x) fun ds => (PySem.W.AllAlike ds ∧ PySem.W.Sortable ds ∧ ∀ d ∈ ds, d.canLay0 = true ∧ d.depth ≤ 60) ∧ Q (.lst (ds.mergeSort (PySem.W.dataLe false id))) s := rfl
/-! ## a comprehension over a dict that was just made: it stays locked -/
def keysC (m : Nat) (s : AS) (Q : List PyData → (List Cell → Prop) → AS → Prop) (n : Nat) : Cell → Prop
  | .dK kvs => m ≤ n ∧ Q (kvs.map fun kv => keyD kv.1) (fun _ => True) ⟨s.sl, s.cs.set n (.fz (dictD kvs))⟩
  | _ => False
def keysR (m : Nat) (s : AS) (Q : List PyData → (List Cell → Prop) → AS → Prop) : AVal → Prop
  | .r n => onSome s.cs[n]? fun c => keysC m s Q n c
  | _ => False
def iterKC (m : Nat) (ta : TEA) : TIO := fun s Q => ta s fun x s1 => keysR m s1 Q x
theorem iterKC_r {n m : Nat} {Q : List PyData → (List Cell → Prop) → AS → Prop} : keysR m s Q (.r n) = onSome s.cs[n]? fun c => keysC m s Q n c := rfl
theorem keysC_dK {n m : Nat} {kvs : List (Key × PyData)} {Q : List PyData → (List Cell → Prop) → AS → Prop} : keysC m s Q n (.dK kvs) = (m ≤ n ∧ Q (kvs.map fun kv => keyD kv.1) (fun _ => True) ⟨s.sl, s.cs.set n (.fz (dictD kvs))⟩) := rfl
/-! ## text <= text -/
def leST : AVal → AVal → TTA := fun x y s Q => onSome x.str? fun i => onSome y.str? fun j => Q (leS i j) s
/-! ## len(set(texts)) -/
def lenSetA (ta : TEA) : TEA := fun s Q => ta s fun x s1 => onSome (listOf s1 x) fun ds => onSome (strs? ds) fun xs => xs.length ≤ 4000 ∧ Q (.d (.int ((kset xs).length : Int))) s1
end
end Kr
/-! layer A23 -/
namespace Kr
open PySem L2 PySem.Spec PyProof.Rows
/-! ## promises that know that no repr is under way -/
structure FnG (P : Program) (w : World) (K : PySem.W.Frag) (mg : Str → Option Value) (base : Heap) (CX : CXT) (k : Nat) (f : Addr) (fd : FuncData) (ps : List Str) (sp : Sp) : Prop where
  len : ∀ us H Q E, sp us H Q E → us.length = ps.length
  run : ∀ (A : Around) (outer : List Env) (s : Shared) (H : Hp) (args : Args) (us : List Value) (vs : List V) (Q : VK) (E : XK), A.guards = some [] → Room k A → Env0 P w K mg base A outer s H → BindsTo s fd args (ps.zip us) → Vals vs us → sp vs H Q E →
    codeAny (model P w) A (.call (.ref f) args) (CR CX outer P w H s Q E) s
section
variable {P : Program} {w : World} {K : PySem.W.Frag} {mg : Str → Option Value} {base : Heap}
theorem FnG.of {CX : CXT} {k : Nat} {f : Addr} {fd : FuncData} {ps : List Str} {sp : Sp} (h : FnOk P w K mg base CX k f fd ps sp) : FnG P w K mg base CX k f fd ps sp :=
  ⟨h.len, fun A outer s H args us vs Q E _ hr e0 hb hv hs => h.run A outer s H args us vs Q E hr e0 hb hv hs⟩
theorem FnG.mono {CX : CXT} {j k : Nat} {f : Addr} {fd : FuncData} {ps : List Str} {sp : Sp} (h : FnG P w K mg base CX j f fd ps sp) (hjk : j ≤ k) : FnG P w K mg base CX k f fd ps sp :=
  ⟨h.len, fun A outer s H args us vs Q E hg hr e0 hb hv hs => h.run A outer s H args us vs Q E hg (hr.mono hjk) e0 hb hv hs⟩
end
/-! ## repr of data -/
section
variable {P : Program} {w : World} {K : PySem.W.Frag} {mg : Str → Option Value} {base : Heap}
theorem FnG.imp {CX : CXT} {k : Nat} {f : Addr} {fd : FuncData} {ps : List Str} {sp sp' : Sp} (h : FnG P w K mg base CX k f fd ps sp) (q : ∀ us H Q E, sp' us H Q E → sp us H Q E) : FnG P w K mg base CX k f fd ps sp' :=
  ⟨fun us H Q E z => h.len us H Q E (q _ _ _ _ z), fun A outer s H args us vs Q E hg hr e0 hb hv hs => h.run A outer s H args us vs Q E hg hr e0 hb hv (q _ _ _ _ hs)⟩
end
end Kr
/-! layer A24 -/
/-! layer A25 -/
namespace Kr
open PySem L2
/-! ## texts taken apart -/
section
variable {X : Cx} {B : Bs} {ad : List Addr} {F H : Hp} {s : AS} {σ : L2.St} {x y : AVal} {u v : V} {o e e2 : Expr} {apos p pos tpos : Pos} {ta tb : TEA}
theorem daAll_strsV : ∀ (ys : List Str), DaAll F (ys.map PyData.str) (ys.map V.str)
  | [] => daAll_nil
  | y :: ys => daAll_cons rfl (daAll_strsV ys)
def splitN (to te : TEA) : TNA := fun s Q => to s fun x s1 => onSome x.str? fun z => te s1 fun y s2 => onSome y.str? fun w => ((w.length == 0) = false ∧ z.length + 2 ≤ sizeLine) ∧ Q (.lst ((Txt.split z w).map .str)) s2
theorem en_split (ho : EA X B o ta) (he : EA X B e tb) (hs : starEach [e] X.env = [(false, eval e X.env)] := by rfl) (hbase : attributeBase o "split" X.env (eval o X.env) = eval o X.env := by rfl) (hline : (apos.endLine == pos.line) = true := by rfl) :
    EN X B (.Call (.Attribute o "split" apos) [e] [] pos) (splitN ta tb) := ⟨fun ad F H s σ Q r t =>
  we_of (pe_split pe_we pe_we hs hbase hline) ((ho.run ad F H s σ _ r t).imp fun v H1 q => by
    obtain ⟨ad1, F1, x, s1, e1, k1, r1, hv, z, ez, q⟩ := q
    have := AVal.str?_of ez
    subst this
    refine ⟨⟨z, hv⟩, (he.run ad1 F1 H1 s1 σ _ r1 q).imp fun w H2 q => ?_⟩
    obtain ⟨ad2, F2, y, s2, e2, k2, r2, hw, z2, ez2, ⟨q1, q2⟩, q⟩ := q
    have := AVal.str?_of ez2
    subst this
    refine ⟨z, z2, hv, by rw [show w = .str z2 from hw], q1, q2, fun p hp => (PostN.here (c := .lst _) r2 hp ⟨_, upd_same, daAll_strsV _⟩ rfl q).up (e1.trans e2) (k1.trans k2)⟩)⟩
/-! ## two lists walked side by side -/
end
end Kr
/-! layer A26 -/
namespace Kr
open PySem L2
/-! ## defs that may raise an error of a class of the program's own -/
abbrev SpTX := List AVal → List Cell → (RV → List Cell → Prop) → (PyData → List Cell → Prop) → Prop
def errD (C : Addr) (y : PyData) : PyData := .dict (exK C y)
def EPost (ad : List Addr) (F H : Hp) (T : List Addr) (PE : PyData → List Cell → Prop) : Value → Option Addr → Hp → Prop := fun cls d H2 => ∃ C y F2 cs2, cls = .ref C ∧ AtOk F2 y d ∧ Rl (Bs.at ad F H T) ad F2 H2 ⟨[], cs2⟩ [] ∧ (∀ c ∈ cs2, c.flat = true) ∧ PE (errD C y) cs2
def spAX (n : Nat) (t : SpTX) : Sp := fun vs H Q E => ∃ F ad cs xs P PE, vs.length = n ∧ Rl (Bs.at ad F H (cs.flatMap Cell.ads)) ad F H ⟨[], cs⟩ [] ∧ Paired (VOk ad F) xs vs ∧ t xs cs P PE ∧ (∀ v H2, RPost ad F H (cs.flatMap Cell.ads) P v H2 → Q v H2) ∧ ∀ cls d H2, EPost ad F H (cs.flatMap Cell.ads) PE cls d H2 → E cls d H2
/-- what is wished of an error in the air, over abstract states -/
def Lx (B : Bs) (W : PyData → AS → Prop) : WX := fun cls d σ H => ∃ C y ad F s, cls = .ref C ∧ AtOk F y d ∧ Rl B ad F H s σ ∧ W (errD C y) s
section
variable {X : Cx} {B : Bs} {W : PyData → AS → Prop} {k : Nat} {f C : Addr} {fd : FuncData} {ps : List Str} {n : Nat} {t : SpTX} {x : Str} {p pos pos2 p2 : Pos} {e : Expr} {es : List Expr} {tl : TLA}
def raiseA (W : PyData → AS → Prop) (C : Addr) : TSA := fun _ s => W (errD C (.list [])) s
theorem sa_raise {newId initId : String} {bmB : List Value} {Bb : String} {m : Str} {j : Nat} (hc : X.calm = true) (tk : Takes X (Lx B W)) (F : ExcBaseFacts Bb newId initId bmB) (q : PySem.W.excIn X.K C bmB newId = true) (gC : X.mg x = some (.ref C)) (kC : PySem.W.keepIn X.K (.ref C) = true) (hr : Raises X (.ref C)) (hg : Gl X x := by rfl) (hdb : (x == ("__debug__" : Str)) = false := by decide) :
    SA X B (.Raise (some (.Call (.Name x p) [.Constant (.str m) j p2] [] pos2)) none pos) (raiseA W C) := ⟨fun D s h ad F1 H σ r => ws_of (ps_raise hc tk (pmk_own F q gC kC hr hg hdb)) ⟨C, _, ad, F1, s, rfl, .inl ⟨rfl, rfl⟩, r, h⟩⟩
/-- a call that may raise -/
def callWX (t : SpTX) (W : PyData → AS → Prop) (xs : List AVal) (s : AS) (P : RV → AS → Prop) : Prop :=
  (refsOf xs).Nodup ∧ onSome (subC s.cs (refsOf xs)) fun cs => cs.all Cell.pass = true ∧ t (xs.map (ren (refsOf xs))) cs (fun rv cs2 => cs2.length = cs.length → P rv ⟨s.sl, putC s.cs (refsOf xs) cs2⟩) (fun er cs2 => cs2.length = cs.length → W er ⟨s.sl, putC s.cs (refsOf xs) cs2⟩)
def callXF (t : SpTX) (W : PyData → AS → Prop) (tl : TLA) : TEA := fun s Q => tl s fun xs s1 => callWX t W xs s1 (resF Q)
def callXO (t : SpTX) (W : PyData → AS → Prop) (tl : TLA) : TEA := fun s Q => tl s fun xs s1 => callWX t W xs s1 (resO (refsOf xs) Q)
theorem call_postX {ad : List Addr} {F H : Hp} {s : AS} {σ : L2.St} {xs : List AVal} {vs : List V} {P : RV → AS → Prop} {Q : VK} {E : XK} (hn : vs.length = n) (r : Rl B ad F H s σ) (hv : Paired (VOk ad F) xs vs) (h : callWX t W xs s P)
    (hF : ∀ F2 H2 y v s2, Rl B ad F2 H2 s2 σ → Same F F2 → Da F2 y v → P (.f y) s2 → Q v H2)
    (hN : ∀ F2 H1 H2 c p o s2, Rl B ad F2 H1 s2 σ → Same F F2 → H1 p = none → H2 = upd H1 p o → COk ad F2 H2 p c → c.live = true → P (.n c) s2 → Q (.ref p) H2)
    (hT : ∀ F2 H2 t p s2, Rl B (ad ++ [p]) F2 H2 ⟨s2.sl, s2.cs ++ [.tr t]⟩ σ → s2.cs.length = ad.length → Same F F2 → P (.t t) s2 → Q (.ref p) H2)
    (hP : ∀ F2 H2 k n p s2, Rl B ad F2 H2 s2 σ → Same F F2 → (refsOf xs)[k]? = some n → ad[n]? = some p → P (.p k) s2 → Q (.ref p) H2)
    (hU : ∀ F2 H2 ex new ad' ys ws p s2, Rl B (ad ++ ex) F2 H2 ⟨s2.sl, s2.cs ++ new⟩ σ → s2.cs.length = ad.length → Same F F2 → ad'.length = (refsOf xs).length → (∀ (j : Nat) n, (refsOf xs)[j]? = some n → ad'[j]? = ad[n]?) → H2 p = some (.tup ws) → Paired (VOk (ad' ++ ex) F2) ys ws → P (.u ys new) s2 → Q (.ref p) H2)
    (hE : ∀ F2 H2 C y d s2, Rl B ad F2 H2 s2 σ → AtOk F2 y d → W (errD C y) s2 → E (.ref C) d H2) : spAX n t vs H Q E := by
  obtain ⟨nd, cs, hs, hf, ht⟩ := h
  have hf := List.all_eq_true.mp hf
  have hg : ∀ c ∈ cs, c ≠ .gone := fun c hc => pass_gone (hf c hc)
  obtain ⟨ad', hl, he, sub, rs⟩ := r.sub nd hs fun c hc => pass_flat (hf c hc)
  have hcl : cs.length = ad'.length := rs.len.symm
  refine ⟨F, ad', cs, xs.map (ren (refsOf xs)), _, _, hn, rs, paired_ren he (fun n hx => refs_mem hx) hv, ht, fun v H2 hp => ?_, fun cls d H2 hp => ?_⟩
  · rcases hp with ⟨F2, y, cs2, r2, hf2, hd, hp⟩ | ⟨F2, c, cs2, p, H1, o, r2, hf2, rfl, hp1, e2, ok, hlv, hfl, hp⟩ | ⟨F2, t, cs2, p, r2, hf2, rfl, hp⟩ | ⟨F2, cs2, k, p, r2, hf2, hk, rfl, hp⟩ | ⟨F2, cs2, new, ex, ys, ws, p, r2, hl3, hf2, rfl, hpt, hys, hp⟩
    · exact hF F2 H2 y v _ (r.unsub nd hs hg hl he sub r2 hf2) r2.ff hd (hp (by rw [hcl]; exact r2.len.symm))
    · exact hN F2 H1 H2 c p o _ (r.unsub nd hs hg hl he sub r2 hf2) r2.ff hp1 e2 (ok.flat hfl) hlv (hp (by rw [hcl]; exact r2.len.symm))
    · have hl3 : cs2.length = ad'.length := by
        have := r2.len
        simp only [List.length_append, List.length_singleton] at this
        omega
      refine hT F2 H2 t p _ (r.unsubX nd hs hg hl he sub r2 (by omega) (fun c hc => ?_)) ?_ r2.ff (hp (by rw [hcl]; exact hl3))
      · rcases List.mem_append.mp hc with hc | hc
        · exact hf2 c hc
        · rw [List.mem_singleton] at hc; subst hc; rfl
      · show (putC s.cs (refsOf xs) cs2).length = _
        rw [putC_len]; exact r.len.symm
    · have hkl := (List.getElem?_eq_some_iff.mp hk).1
      have hj : (refsOf xs)[k]? = some (refsOf xs)[k] := List.getElem?_eq_getElem (by omega)
      refine hP F2 H2 k _ p _ (r.unsub nd hs hg hl he sub r2 hf2) r2.ff hj ?_ (hp (by rw [hcl]; exact r2.len.symm))
      rw [← he k _ hj]; exact hk
    · refine hU F2 H2 ex new ad' ys ws p _ (r.unsubX nd hs hg hl he sub r2 (by omega) hf2) ?_ r2.ff hl he hpt hys (hp (by rw [hcl]; exact hl3))
      show (putC s.cs (refsOf xs) cs2).length = _
      rw [putC_len]; exact r.len.symm
  · obtain ⟨C, y, F2, cs2, rfl, ha, r2, hf2, hp⟩ := hp
    exact hE F2 H2 C y d _ (r.unsub nd hs hg hl he sub r2 hf2) ha (hp (by rw [hcl]; exact r2.len.symm))
end
section
variable {P : Program} {w : World} {K : PySem.W.Frag} {mg : Str → Option Value} {base : Heap}
def excP (m : Nat) (PE : PyData → List Cell → Prop) : PyData → AS → Prop := fun er s => (s.cs.take m).all Cell.flat = true ∧ PE er (s.cs.take m)
def bodyTX (k : Nat) (t : (PyData → AS → Prop) → Nat → TSA) : SpTX := fun xs cs P PE => t (excP cs.length PE) cs.length (retD cs.length P) ⟨xs.map some ++ List.replicate k none, cs⟩
theorem okAX {x qual : Str} {st : Stmt} {f : Addr} {fd : FuncData} {N ps : List Str} {k : Nat} {t : (PyData → AS → Prop) → Nat → TSA} (Fn : Fun K x qual st f fd) (S : FnScope N ps (defScope st))
    (hbody : ∀ (cdv : Value) (A : Around) (outer : List Env) (s : Shared) (H : Hp) (E : XK) (B : Bs) (W : PyData → AS → Prop), Room k (A.deeper (PyProof.Rows.envOfC qual (defScope st) s.heap.objs.size f cdv)) →
      Takes (cxOf (L2.CX P w) P w K mg base N qual (defScope st) f cdv A outer s H E) (Lx B W) → PassesOwn (model P w) (cxOf (L2.CX P w) P w K mg base N qual (defScope st) f cdv A outer s H E).A (cxOf (L2.CX P w) P w K mg base N qual (defScope st) f cdv A outer s H E).env (cxOf (L2.CX P w) P w K mg base N qual (defScope st) f cdv A outer s H E).xe →
      SS (cxOf (L2.CX P w) P w K mg base N qual (defScope st) f cdv A outer s H E) B (defBody st) (t W B.S.length)) :
    FnOk P w K mg base (L2.CX P w) (k + 1) f fd ps (spAX ps.length (bodyTX (N.length - ps.length) t)) :=
  Fn.okX S (fun vs H Q E ⟨F, ad, cs, xs, P, PE, hl, _⟩ => hl) fun cdv A outer s H vs Q E hr ⟨F, ad, cs, xs, Pn, PE, hl, r, hp, ht, q, qE⟩ => by
    have hsl : Rl (Bs.at ad F H (cs.flatMap Cell.ads)) ad F H ⟨xs.map some ++ List.replicate (N.length - ps.length) none, cs⟩ (start N vs) := by
      refine ⟨r.ff, r.fh, r.hh, r.al, r.new, r.pre, r.nd, r.len, r.cel, ?_, ?_, r.inn⟩
      · unfold L2.start
        simp [Paired.len hp, hl]
      · unfold L2.start
        rw [hl]
        exact paired_slots hp
    have hm : cs.length = ad.length := r.len.symm
    refine ⟨_, pss_wss, ?_⟩
    intro pins sh I
    have ht' : t (excP ad.length PE) ad.length (retD cs.length Pn) ⟨xs.map some ++ List.replicate (N.length - ps.length) none, cs⟩ := by rw [← hm]; exact ht
    have tk : Takes (cxOf (L2.CX P w) P w K mg base N qual (defScope st) f cdv A outer s H E) (Lx (Bs.at ad F H (cs.flatMap Cell.ads)) (excP ad.length PE)) := (takes_of rfl rfl rfl rfl).imp fun cls d σ H2 h => by
      obtain ⟨C, y, ad2, F2, s2, rfl, ha, r2, hfl, w2⟩ := h
      exact qE (.ref C) d H2 ⟨C, y, F2, _, rfl, ha, r2.cells (List.all_eq_true.mp hfl), List.all_eq_true.mp hfl, w2⟩
    refine thn ((hbody cdv A outer s H E (Bs.at ad F H (cs.flatMap Cell.ads)) (excP ad.length PE) hr tk (passes_of rfl)).run _ _ ht' ad F H _ hsl pins sh I) fun fl s' z => ?_
    cases fl with
    | next =>
      obtain ⟨σ2, H2, I2, ad2, F2, s2, r2, h2⟩ := z
      exact ⟨σ2, H2, I2, q .non H2 (ret_post hm r2 (x := .d .none) rfl h2)⟩
    | brk => obtain ⟨σ2, H2, I2, ad2, F2, s2, r2, h2⟩ := z; exact h2.elim
    | cont => obtain ⟨σ2, H2, I2, ad2, F2, s2, r2, h2⟩ := z; exact h2.elim
    | ret u =>
      obtain ⟨v, σ2, H2, I2, rv, ad2, F2, x2, s2, σ3, r2, hv, h2⟩ := z
      exact ⟨v, σ2, H2, I2, rv, q v H2 (ret_post hm r2 hv h2)⟩
end
end Kr
/-! layer A27 -/
namespace Kr
open PySem L2 PySem.Spec
open PyProof.Rows hiding St
/-! ## sorted(d.values()) of texts, dict(d) -/
section
variable {X : Cx} {B : Bs} {ad : List Addr} {F H : Hp} {s : AS} {σ : St} {x y : AVal} {u v : V}
variable {o : Expr} {p pos apos mpos : Pos} {td : TE}
def txtVals : List (Key × AVal) → Option (List Str)
  | [] => some []
  | p :: r => (AVal.str? p.2).bind fun x => (txtVals r).map (x :: ·)
def srtVN (ta : TEA) : TNA := fun s Q => ta s fun x s1 => match view s1 x with
  | .dct kvs => onSome (txtVals kvs) fun ks => ks.length < 64 ∧ Q (.lst ((srt ks).map .str)) s1
  | _ => False
/-! dict(d) -/
def datKV : List (Key × AVal) → Option (List (Key × PyData))
  | [] => some []
  | p :: r => (AVal.data? p.2).bind fun x => (datKV r).map ((p.1, x) :: ·)
def dictDN (xs : List AVal) : TNA := fun s Q => one (fun x => match view s x with
  | .dct kvs => onSome (datKV kvs) fun ks => Q (.dK ks) s
  | _ => False) xs
theorem datKV_dkv (kvs : List (Key × PyData)) : datKV (dkv kvs) = some kvs := by
  induction kvs with
  | nil => rfl
  | cons p r ih => show (some p.2).bind (fun x => (datKV (dkv r)).map ((p.1, x) :: ·)) = _; rw [ih]; rfl
theorem txtVals_dkv (kvs : List (Key × Str)) : txtVals (dkv (kvs.map fun p => (p.1, PyData.str p.2))) = some (kvs.map (·.2)) := by
  induction kvs with
  | nil => rfl
  | cons p r ih => show (some p.2).bind (fun x => (txtVals (dkv (r.map fun p => (p.1, PyData.str p.2)))).map (x :: ·)) = _; rw [ih]; rfl
def srtVV (s : AS) (Q : Cell → AS → Prop) : View → Prop
  | .dct kvs => onSome (txtVals kvs) fun ks => ks.length < 64 ∧ Q (.lst ((srt ks).map .str)) s
  | _ => False
def dictDV (s : AS) (Q : Cell → AS → Prop) : View → Prop
  | .dct kvs => onSome (datKV kvs) fun ks => Q (.dK ks) s
  | _ => False
theorem srtVV_dct {Q : Cell → AS → Prop} {kvs : List (Key × AVal)} : srtVV s Q (.dct kvs) = onSome (txtVals kvs) fun ks => ks.length < 64 ∧ Q (.lst ((srt ks).map .str)) s := rfl
theorem dictDV_dct {Q : Cell → AS → Prop} {kvs : List (Key × AVal)} : dictDV s Q (.dct kvs) = onSome (datKV kvs) fun ks => Q (.dK ks) s := rfl
theorem srtVN_V {ta : TEA} {Q : Cell → AS → Prop} : srtVN ta s Q = ta s fun x s1 => srtVV s1 Q (view s1 x) := by
  unfold srtVN
  congr 1
theorem dictDN_V {Q : Cell → AS → Prop} : dictDN [x] s Q = dictDV s Q (view s x) := by
  show (match view s x with | .dct kvs => onSome (datKV kvs) fun ks => Q (.dK ks) s | _ => False) = _
  cases view s x <;> rfl
end
end Kr
/-! layer A28 -/
namespace L2
open PySem PySem.Spec PyProof.Rows
section
variable {X : Cx} {pins : List (Addr × Obj)} {σ : St} {H : Hp} {s : Shared}
/-- an object that wasn't tracked is tracked -/
theorem Inv.track {a : Addr} {oe : Obj} {vs : Array Value} {φ : Heap → Prop} (I : Inv X pins σ H s) (e : s.heap.get? a = some oe) (hd : oe.data = .fields vs) (na : H a = none) (nL : a ≠ X.env.locals) (np : ∀ p ∈ X.pn ++ pins, p.1 ≠ a)
    (n0 : ∀ o, X.s_0.heap.get? a = some o → X.H_0 a = none → a ∉ X.ex → False) (hφ : φ s.heap) (st : ∀ h1 h2 : Heap, φ h1 → (∀ o, h1.get? a = some o → h2.get? a = some o) → φ h2) : Inv X pins σ (upd H a (.ext φ)) s := by
  refine ⟨I.ok, I.os, I.bare, ⟨I.base.keep, I.base.slot, fun b o q n hx => ?_, I.base.there, fun b xs q => ?_, fun b o u q => ?_, fun b ps q => ?_⟩, I.loc, I.cell, ?_, fun x c q => ?_, fun p hp => ?_, fun b u q => ?_, I.len⟩
  · by_cases hb : b = a
    · subst hb; exact (n0 o q n hx).elim
    · rw [upd_ne hb]; exact I.base.free b o q n hx
  · have z := I.base.tups b xs q
    rw [upd_ne (ne_of_none z na)]; exact z
  · have z := I.base.frzs b o u q
    rw [upd_ne (ne_of_none z na)]; exact z
  · obtain ⟨m, z⟩ := I.base.tbls b ps q
    exact ⟨m, by rw [upd_ne (ne_of_none z na)]; exact z⟩
  · rw [upd_ne (Ne.symm nL)]; exact I.free
  · have hc : c ≠ a := fun z => by
      obtain ⟨v, o, ho, hd'⟩ := I.cell x c q
      rw [z, e] at ho; cases ho; rw [hd] at hd'; cases hd'
    rw [upd_ne hc]; exact I.freeC x c q
  · obtain ⟨p1, p2, p3, p4, p5⟩ := I.pin p hp
    exact ⟨p1, by rw [upd_ne (np p hp)]; exact p2, p3, p4, p5⟩
  · by_cases hb : b = a
    · subst hb
      rw [upd_same] at q
      cases q
      exact ⟨hφ, ⟨oe, e⟩, st⟩
    · rw [upd_ne hb] at q
      exact (I.hok b u q).stay (fun c v _ z => z) (fun c z => by rw [upd_ne (ne_of_none z na)]; exact z) fun c xs z => by rw [upd_ne (ne_of_none z na)]; exact z
end
/-- an error that was caught in the frame of X: the def's own state J without it, and where its object lies (h: the heap of now) -/
structure Caught (X : Cx) (pins : List (Addr × Obj)) (σ : St) (H : Hp) (C a : Addr) (d : Option Addr) (B : Heap) (sI s' : Shared) (h : Heap) : Prop where
  J : Inv X pins σ H sI
  na : H a = none
  nb : ∀ b o, sI.heap.get? b = some o → b ∉ frs X.stack → B.get? b = some o
  os : s'.os = sI.os
  ag : AllBare s'.gens
  up : sI.heap.UpToSlots h
  fl : HandSPX.FlyingZ B (X.env :: X.outer) a (Zc (.ref C) d) h
section
variable {X : Cx} {pins : List (Addr × Obj)} {σ : St} {H : Hp} {C a : Addr} {d : Option Addr} {B : Heap} {sI s' : Shared} {h h' : Heap}
theorem Caught.next (c : Caught X pins σ H C a d B sI s' h) (up : h.UpToSlots h') (fl : HandSPX.FlyingZ B (X.env :: X.outer) a (Zc (.ref C) d) h') : Caught X pins σ H C a d B sI s' h' :=
  ⟨c.J, c.na, c.nb, c.os, c.ag, c.up.trans up, fl⟩
theorem Caught.inv (c : Caught X pins σ H C a d B sI s' h) : Inv X pins σ H { s' with heap := h } := c.J.landed c.nb c.fl.1 c.up c.os c.ag
theorem Caught.off (c : Caught X pins σ H C a d B sI s' h) : a ∉ frs (X.env :: X.outer) := fun m => by
  obtain ⟨oe, vs, h1, _, h2⟩ := c.fl.there
  obtain ⟨_, u, h3, h4⟩ := c.fl.2.2.1.mem m
  rw [h1] at h3
  exact h4 vs (Option.some.inj h3 ▸ h2)
theorem Caught.offS (c : Caught X pins σ H C a d B sI s' h) (hs : X.stack = X.env :: X.outer) : a ∉ frs X.stack := hs ▸ c.off
theorem Caught.offL (c : Caught X pins σ H C a d B sI s' h) (hf : X.env.frame = some X.env.locals) : a ≠ X.env.locals := fun z => c.off (by
  rw [z]
  exact List.mem_filterMap.mpr ⟨X.env, List.mem_cons_self, hf⟩)
theorem Caught.offF (c : Caught X pins σ H C a d B sI s' h) : a ∉ X.fs := fun m => c.off (by
  obtain ⟨e, h1, h2⟩ := List.mem_filterMap.mp m
  exact List.mem_filterMap.mpr ⟨e, List.mem_cons_of_mem _ h1, h2⟩)
/-- it is none of the objects that stood before -/
theorem Caught.fresh (c : Caught X pins σ H C a d B sI s' h) (hs : X.stack = X.env :: X.outer) {o : Obj} (e : sI.heap.get? a = some o) : False := by
  have z := c.nb a o e (c.offS hs)
  rw [c.fl.2.1] at z
  cases z
theorem Caught.suite (c : Caught X pins σ H C a d B sI s' h) (hf : X.env.frame = some X.env.locals) : ∃ oe vs, oe.data = .fields vs ∧ Zc (.ref C) d oe ∧ Inv (X.suite a ((a, oe) :: (X.pn ++ pins))) [] σ H { s' with heap := h } := by
  obtain ⟨oe, vs, h1, h2, h3⟩ := c.fl.there
  exact ⟨oe, vs, h3, h2, c.inv.suite h1 h3 c.na (c.offL hf) c.offF⟩
/-- behind the suite: it is tracked -/
theorem Caught.out (c : Caught X pins σ H C a d B sI s' h) (ok : X.Ok) (hs : X.stack = X.env :: X.outer) (hf : X.env.frame = some X.env.locals) {σ6 : St} {H6 : Hp} {s6 : Shared} {oe : Obj} {vs : Array Value} (hd : oe.data = .fields vs) (hz : Zc (.ref C) d oe)
    (S : Inv (X.suite a ((a, oe) :: (X.pn ++ pins))) [] σ6 H6 s6) : Inv X pins σ6 (upd H6 a (.ext (Kr.ExP C d a))) s6 := by
  obtain ⟨g1, g2, _⟩ := S.pin (a, oe) (List.mem_append_left _ List.mem_cons_self)
  refine (S.unsuite ok).track g1 hd g2 (c.offL hf) (fun p hp z => ?_) (fun o q n hx => c.fresh hs (c.J.base.keep a o q n c.offF hx)) ⟨oe, vs, g1, hz, hd⟩ fun h1 h2 ⟨o, v, z1, z2⟩ k => ⟨o, v, k o z1, z2⟩
  have p1 := (c.J.pin p hp).1
  rw [z] at p1
  exact c.fresh hs p1
end
/-- what is wished of an error that the clause 'except x as n' keeps -/
def wKeep (K : PySem.W.Frag) (c : Value) (i : Nat) (ts : Addr → TS) (D : Ends) : WX := fun cls d σ H => PySem.W.exmOne K cls c = some true ∧ ∃ C, cls = .ref C ∧ ∀ a, H a = none → i < σ.length →
  ts a { nx := fun σ' H' => D.nx (σ'.set i none) (upd H' a (.ext (Kr.ExP C d a))), rt := fun _ _ => False, bk := fun _ _ => False, ct := fun _ _ => False } (σ.set i (some (.ref a))) H
section
variable {X : Cx} {x n : Str} {c : Value} {i : Nat} {body suite : List Stmt} {b₀ : Stmt} {np pos pos' : Pos} {tb : WX → TS} {ts : Addr → TS}
abbrev clauseOf (x n : Str) (np pos' : Pos) (b₀ : Stmt) (suite : List Stmt) : List ExceptHandler := [.ExceptHandler (some (.Name x np)) (some n) (b₀ :: suite) pos']
/-- the clause, from where the error is noted on -/
theorem keep_clause {pins : List (Addr × Obj)} {D : Ends} {u : Value} {s' : Shared} (ok : X.Ok) (hs : X.stack = X.env :: X.outer) (hf : X.env.frame = some X.env.locals) (hN : X.N.Nodup) (hi : X.N[i]? = some n) (hln : X.env.kindOf n = some .local) (hc : Names X x c)
    (hsu : ∀ (a : Addr) (oe : Obj) (pn : List (Addr × Obj)), (∃ vs, oe.data = .fields vs) → PSs (X.suite a ((a, oe) :: pn)) (b₀ :: suite) (ts a))
    {xe : Value → Shared → Prop} (h : XE (X.tr (X.pn ++ pins) xe) (wKeep X.K c i ts D) u s') :
    wpAny (model X.prog X.w) X.A (noteFrame u X.env) (fun _ s₂ => wpAny (model X.prog X.w) X.A (setFlight u none) (fun _ s₃ => wpAny (model X.prog X.w) X.A (handleBy u X.env (clauseOf x n np pos' b₀ suite)) (SP X pins D) X.xe s₃) X.xe s₂) X.xe s' := by
  obtain ⟨a, B, sI, pins', σ, H, cls, d, rfl, I0, nb, up, sky, na, os, ag, hm, C, rfl, go⟩ := h
  have J : Inv X pins σ H sI := I0.ofTry ok
  have hlt : i < σ.length := J.len ▸ (List.getElem?_eq_some_iff.mp hi).1
  rw [show (X.tr (X.pn ++ pins) xe).stack = X.env :: X.outer from hs] at sky
  refine Sky.land Zc.steady (by rw [ok.frames, hs]) hf sky fun h3 fl3 up3 => ?_
  have c3 : Caught X pins σ H C a d B sI s' h3 := ⟨J, na, nb, os, ag, up.trans up3, fl3⟩
  obtain ⟨oe, vs, hd, hz, S⟩ := c3.suite hf
  refine wpAny_handleBy_cons (codeAny_handlers_test ?_) (fun q => nomatch q)
  obtain ⟨of, _, g1, g2, _⟩ := c3.fl.there
  have isT := PySem.W.exm_one (M := model X.prog X.w) c3.inv.kIn (e := a) (fun A Q E s k q => wpAny_typeOf_ref (k _ _ g1) (by rw [g2.1]; exact q)) hm
  have named : wpAny (model X.prog X.w) (X.A.mark (some (.ref a))) (eval (.Name x np) X.env) (fun v s => v = c ∧ s = { s' with heap := h3 }) (fun _ _ => False) { s' with heap := h3 } := by
    rcases hc with ⟨g1, g2, g3 | ⟨g3, g4, g5⟩⟩
    · exact (ld_glob (X := X.suite a ((a, oe) :: (X.pn ++ pins))) S g1 g3 ⟨rfl, rfl⟩ g2)
    · exact (ld_blt (X := X.suite a ((a, oe) :: (X.pn ++ pins))) S g1 g3 g4 ⟨rfl, rfl⟩ g5 g2)
  refine wpAny_mono named (fun v s ⟨ev, es⟩ => ?_) fun _ _ z => z.elim
  subst ev es
  refine isT.here (codeAny_handlers_suite_as (HandSPX.lands_againZ fl3 fun h4 fl4 up4 => ?_))
  have c4 := c3.next up4 fl4
  obtain ⟨oe4, vs4, hd4, hz4, S4⟩ := c4.suite hf
  refine store_ok (X := X.suite a ((a, oe4) :: (X.pn ++ pins))) (v := .ref a) S4 hN hi (.inl hln) rfl (fun s5 S5 => ?_) (.inr hln)
  refine wpAny_mono ((hsu a oe4 _ ⟨_, hd4⟩).run [] s5 _ H _ S5 (go a na hlt)) (fun f s6 e => ?_) fun _ _ z => z.elim
  cases f with
  | next =>
    obtain ⟨σ6, H6, S6, q6⟩ := e
    exact gone_ok (c4.out ok hs hf hd4 hz4 S6) hN hi hln fun s7 J7 => ⟨_, _, J7, q6⟩
  | brk => exact e.elim fun _ e => e.elim fun _ e => e.2.elim
  | cont => exact e.elim fun _ e => e.elim fun _ e => e.2.elim
  | ret u => exact e.elim fun _ e => e.elim fun _ e => e.elim fun _ e => e.2.2.elim
/-- try: body / except x as n: suite, where the suite ends and keeps the error in some name -/
theorem ps_try_keep (hs : X.stack = X.env :: X.outer) (hf : X.env.frame = some X.env.locals) (hN : X.N.Nodup) (hi : X.N[i]? = some n) (hln : X.env.kindOf n = some .local) (hc : Names X x c)
    (hb : ∀ (W : WX) (pn : List (Addr × Obj)) (xe : Value → Shared → Prop), Takes (X.tr pn xe) W → PassesOwn (model X.prog X.w) X.A X.env xe → PSs (X.tr pn xe) body (tb W))
    (hsu : ∀ (a : Addr) (oe : Obj) (pn : List (Addr × Obj)), (∃ vs, oe.data = .fields vs) → PSs (X.suite a ((a, oe) :: pn)) (b₀ :: suite) (ts a)) :
    PS X (.Try body (clauseOf x n np pos' b₀ suite) [] [] pos) (fun D σ H => tb (wKeep X.K c i ts D) D σ H) := ⟨fun pins s σ H D I h => by
  refine wpAny_Try_except (wpAny_mono ((hb (wKeep X.K c i ts D) (X.pn ++ pins) _ (fun u s' e => keep_clause I.ok hs hf hN hi hln hc hsu e) PassesOwn.looking).run [] s σ H D (I.toTry _) h) (fun f s1 e => ?_) fun _ _ z => z)
  have back : ∀ {σ' : St} {H' : Hp} {xe : Value → Shared → Prop}, Inv (X.tr (X.pn ++ pins) xe) [] σ' H' s1 → Inv X pins σ' H' s1 := fun J => J.ofTry I.ok
  cases f with
  | next => exact wpAny_execs_nil (e.imp fun _ e => e.imp fun _ e => ⟨back e.1, e.2⟩)
  | brk => exact e.imp fun _ e => e.imp fun _ e => ⟨back e.1, e.2⟩
  | cont => exact e.imp fun _ e => e.imp fun _ e => ⟨back e.1, e.2⟩
  | ret u => exact e.imp fun _ e => e.imp fun _ e => e.imp fun _ e => ⟨back e.1, e.2⟩⟩
end
end L2
namespace Kr
open PySem L2
/-! ## errors of the program's own classes, by names -/
inductive XN where
  | house | plain | order | number | kind | many | text | row | step
  deriving DecidableEq
def XN.all : List XN := [.house, .plain, .order, .number, .kind, .many, .text, .row, .step]
def XN.name : XN → Str
  | .house => "NoHouse" | .plain => "NoPlain" | .order => "NoOrder" | .number => "NoNumber" | .kind => "NoKind" | .many => "TooMany" | .text => "NoText" | .row => "NoRow" | .step => "NoStep"
/-- where the classes lie -/
structure ExT where
  c : XN → Addr
  inj : ∀ a b, c a = c b → a = b
def exD (E : ExT) (n : XN) (y : PyData) : PyData := errD (E.c n) y
def exOf (E : ExT) : PyData → Option (XN × PyData)
  | .dict [(.none, .tuple [.int C, y])] => (XN.all.find? fun n => decide (((E.c n : Nat) : Int) = C)).map fun n => (n, y)
  | _ => none
theorem XN.mem_all (n : XN) : n ∈ XN.all := by cases n <;> decide
theorem exOf_err {E : ExT} {C : Addr} {y : PyData} {p : XN × PyData} (h : exOf E (errD C y) = some p) : C = E.c p.1 ∧ y = p.2 := by
  have h' : (XN.all.find? fun n => decide (((E.c n : Nat) : Int) = ((C : Nat) : Int))).map (fun n => (n, y)) = some p := h
  obtain ⟨n, hn, rfl⟩ := Option.map_eq_some_iff.mp h'
  have := List.find?_some hn
  have := of_decide_eq_true this
  exact ⟨(Int.ofNat.inj this).symm, rfl⟩
theorem exOf_exD {E : ExT} {n : XN} {y : PyData} : exOf E (exD E n y) = some (n, y) := by
  show (XN.all.find? fun m => decide (((E.c m : Nat) : Int) = ((E.c n : Nat) : Int))).map (fun n => (n, y)) = some (n, y)
  cases hf : XN.all.find? fun m => decide (((E.c m : Nat) : Int) = ((E.c n : Nat) : Int)) with
  | none =>
    have := List.find?_eq_none.mp hf n n.mem_all
    simp at this
  | some m =>
    have := List.find?_some hf
    have := of_decide_eq_true this
    have := E.inj m n (Int.ofNat.inj this)
    subst this
    rfl
def subX (n : XN) (nm : Str) : Bool := decide (nm = n.name) || decide (nm = "KeyroomError") || decide (nm = "ValueError")
/-- the slots behind a try whose suite keeps the error -/
theorem Rl.keepE {B : Bs} {ad : List Addr} {F H : Hp} {s : AS} {σ : L2.St} {x : AVal} {v w : V} (r : Rl B ad F H s σ) (hv : VOk ad F x v) (i j : Nat) : Rl B ad F H ⟨(s.sl.set j (some x)).set i none, s.cs⟩ (((σ.set i (some w)).set j (some v)).set i none) := by
  have r2 := r.set (k := j) hv
  refine ⟨r2.ff, r2.fh, r2.hh, r2.al, r2.new, r2.pre, r2.nd, r2.len, r2.cel, ?_, fun k y hy => ?_, r2.inn⟩
  · have := r2.sln
    simp only [List.length_set] at this ⊢
    exact this
  · have hki : k ≠ i := fun z => by
      subst z
      have hy : ((s.sl.set j (some x)).set k none)[k]? = some (some y) := hy
      rw [List.getElem?_set] at hy
      simp at hy
    have hy : ((s.sl.set j (some x)).set i none)[k]? = some (some y) := hy
    rw [List.getElem?_set_ne (fun z => hki z.symm)] at hy
    obtain ⟨u, h1, h2⟩ := r2.slt k y hy
    refine ⟨u, ?_, h2⟩
    rw [List.getElem?_set_ne (fun z => hki z.symm)]
    by_cases hkj : k = j
    · subst hkj
      rw [List.getElem?_set] at h1 ⊢
      simpa using h1
    · rw [List.getElem?_set_ne (fun z => hkj z.symm)] at h1 ⊢
      rw [List.getElem?_set_ne (fun z => hki z.symm)]
      exact h1
theorem Da.err {F : Hp} {a C : Addr} {y : PyData} {d : Option Addr} (h : F a = some (.ext (ExP C d a))) (ha : AtOk F y d) : Da F (errD C y) (.ref a) :=
  (show (∃ b es, V.ref a = .ref b ∧ Rd F b (.dK es) ∧ DaKV F (exK C y) es) ∨ ExV F (exK C y) (.ref a) from .inr ⟨a, C, d, y, rfl, rfl, h, ha⟩)
theorem Da.ofErr {F : Hp} {C : Addr} {y : PyData} {v : V} (h : Da F (errD C y) v) : ∃ a d, v = .ref a ∧ F a = some (.ext (ExP C d a)) ∧ AtOk F y d := by
  rcases (show (∃ b es, v = .ref b ∧ Rd F b (.dK es) ∧ DaKV F (exK C y) es) ∨ ExV F (exK C y) v from h) with ⟨b, es, _, _, h3⟩ | ⟨a, C', d, y', e, rfl, h1, h2⟩
  · obtain ⟨k', v', r, _, hk, _⟩ := (show ∃ k' v r, es = (k', v) :: r ∧ KeyD .none k' ∧ Da F (.tuple [.int C, y]) v ∧ DaKV F [] r from h3)
    cases k' <;> exact hk.elim
  · have e2 : PyData.tuple [.int C, y] = .tuple [.int C', y'] := by
      have := congrArg (fun l => (l.head?.map (·.2))) e
      simpa [exK] using this
    have e3 : [PyData.int C, y] = [.int C', y'] := by injection e2
    have e4 : ((C : Nat) : Int) = (C' : Nat) ∧ y = y' := by simpa using e3
    obtain ⟨e5, rfl⟩ := e4
    have : C = C' := Int.ofNat.inj e5
    subst this
    exact ⟨a, d, rfl, h1, h2⟩
def tryK (E : ExT) (L : List XN) (nm : Str) (i j : Nat) (tb : (PyData → AS → Prop) → TSA) : TSA := fun D s => tb (fun er s1 => onSome (exOf E er) fun p => (p.1 ∈ L ∧ subX p.1 nm = true) ∧ D.nx ⟨(s1.sl.set j (some (.d er))).set i none, s1.cs⟩) D s
section
variable {X : Cx} {B : Bs} {nm n y : Str} {c : Value} {body : List Stmt} {np pos pos' py pn2 ps2 : Pos} {tb : (PyData → AS → Prop) → TSA} {E : ExT} {L : List XN}
theorem sa_tryK (i j : Nat) (hs : X.stack = X.env :: X.outer) (hf : X.env.frame = some X.env.locals) (hN : X.N.Nodup) (hc : Names X nm c) (hx : ∀ n ∈ L, subX n nm = true → PySem.W.exmOne X.K (.ref (E.c n)) c = some true)
    (hb : ∀ (W : PyData → AS → Prop) (pn : List (Addr × Obj)) (xe : Value → Shared → Prop), Takes (X.tr pn xe) (Lx B W) → PassesOwn (model X.prog X.w) X.A X.env xe → SS (X.tr pn xe) B body (tb W))
    (hi : X.N[i]? = some n := by rfl) (hln : X.env.kindOf n = some .local := by rfl) (hj : X.N[j]? = some y := by rfl) (hly : X.env.scope.names.lookup y = some .local := by rfl) (hvn : X.env.scope.names.lookup n = some .local := by rfl) (hd : (n == ("__debug__" : Str)) = false := by decide) (hcd : (n == ("__classdict__" : Str)) = false := by decide)
    (hsw : swapsWith (.Name n pn2) (some (.Name y py)) ps2.line X.env = pure false := by rfl) (hij : i ≠ j := by decide) :
    SA X B (.Try body [.ExceptHandler (some (.Name nm np)) (some n) [.Assign [.Name y py] (.Name n pn2) ps2] pos'] [] [] pos) (tryK E L nm i j tb) := ⟨fun D s h ad F H σ r => by
  refine ws_of (ps_try_keep (tb := fun W D σ H => ∀ pn xe, Takes (X.tr pn xe) W → PassesOwn (model X.prog X.w) X.A X.env xe → WSs (X.tr pn xe) body D σ H) (ts := fun a => tAsg (tVar i) (gName j)) hs hf hN hi hln hc (fun W pn xe tk po => ⟨fun pins sh σ H D I q => q pn xe tk po pins sh I⟩) (fun a oe pn hv => ?_)) (fun pn xe tk po => ?_)
  · exact pss_one (ps_set (i := j) hN hj (.inl hly) (pe_var hi (.inl hvn) hd hcd) hsw (.inr hly))
  · refine (hb _ pn xe (tk.imp fun cls d σ1 H1 hw => ?_) po).run D s h ad F H σ r
    obtain ⟨C, z, ad1, F1, s1, rfl, ha, r1, p, hp, ⟨hL, hsub⟩, q⟩ := hw
    obtain ⟨rfl, rfl⟩ := exOf_err hp
    refine ⟨hx p.1 hL hsub, _, rfl, fun a na hl => ?_⟩
    have hFa : F1 a = none := r1.fh.free na
    have g : Gr F1 H1 (upd F1 a (.ext (ExP (E.c p.1) d a))) (upd H1 a (.ext (ExP (E.c p.1) d a))) := (Gr.refl r1.fh).shut na
    have r2 := r1.gr g
    have hda : Da (upd F1 a (.ext (ExP (E.c p.1) d a))) (errD (E.c p.1) p.2) (.ref a) := Da.err upd_same (ha.mono (same_upd hFa))
    have r3 := r2.keepE (x := .d (errD (E.c p.1) p.2)) (v := .ref a) (w := .ref a) hda i j
    exact ⟨.ref a, by rw [List.getElem?_set_self hl], ad1, _, _, r3, q⟩⟩
end
end Kr
/-! layer A29 -/
namespace Kr
open PySem L2
/-! ## isinstance of errors, their field, raising NoStep -/
/-- what the text says of an error's class -/
structure ExcF (K : PySem.W.Frag) (mg : Str → Option Value) (x : Str) (C : Addr) : Prop where
  g : mg x = some (.ref C)
  k : PySem.W.keepIn K (.ref C) = true
  s : PySem.W.subIn K (.ref C) (.type "BaseException") = some true
  t : PySem.W.typeIn K (.ref C) = some (.type "type")
  i : PySem.W.isClsIn K C = true
  e : ExcC K C
theorem ExcF.raises {X : Cx} {x : Str} {C : Addr} (f : ExcF X.K X.mg x C) : Raises X (.ref C) := raises_own f.s f.t
theorem kit_ref {K : PySem.W.Frag} {t C : Addr} {b : Bool} (h1 : PySem.W.isClsIn K C = true) (h2 : PySem.W.typeIn K (.ref C) = some (.type "type")) (h3 : PySem.W.subIn K (.ref t) (.ref C) = some b) (hne : t = C → b = true) : PySem.W.kitOne K (.ref t) (.ref C) = some b := by
  unfold PySem.W.kitOne
  by_cases e : t = C
  · subst e
    rw [if_pos (by simp), hne rfl]
  · rw [if_neg (by simp [e])]
    show (if ((PySem.W.clsIn K C).isSome && PySem.W.typeIn K (.ref C) == some (.type "type")) = true then PySem.W.subIn K (.ref t) (.ref C) else none) = some b
    have h1' : (PySem.W.clsIn K C).isSome = true := h1
    rw [h1', h2, h3]
    rfl
theorem kit_typ {K : PySem.W.Frag} {t : Addr} {T : String} {b : Bool} (h1 : PySem.W.kitMeta T = true) (h3 : PySem.W.subIn K (.ref t) (.type T) = some b) : PySem.W.kitOne K (.ref t) (.type T) = some b := by
  unfold PySem.W.kitOne
  rw [if_neg (by simp)]
  show (if PySem.W.kitMeta T = true then PySem.W.subIn K (.ref t) (.type T) else none) = some b
  rw [if_pos h1, h3]
theorem exm_of {K : PySem.W.Frag} {C cls : Addr} {b : Bool} (h1 : PySem.W.subIn K (.ref C) (.type "BaseException") = some true) (hi : PySem.W.isClsIn K C = true) (ht : PySem.W.typeIn K (.ref C) = some (.type "type")) (h4 : PySem.W.subIn K (.ref cls) (.ref C) = some b) : PySem.W.exmOne K (.ref cls) (.ref C) = some b := by
  have e1 : (PySem.W.subIn K (.ref C) (.type "BaseException") == some true) = true := by rw [h1] <;> rfl
  have e2 : ((PySem.W.clsIn K C).isSome && PySem.W.typeIn K (.ref C) == some (.type "type")) = true := by
    have hi' : (PySem.W.clsIn K C).isSome = true := hi
    rw [hi', ht] <;> rfl
  show (if (PySem.W.subIn K (.ref C) (.type "BaseException") == some true) = true then (if ((PySem.W.clsIn K C).isSome && PySem.W.typeIn K (.ref C) == some (.type "type")) = true then PySem.W.subIn K (.ref cls) (.ref C) else none) else none) = some b
  rw [if_pos e1, if_pos e2]
  exact h4
section
variable {X : Cx} {B : Bs} {pins : List (Addr × Obj)} {σ : L2.St} {H : Hp} {s : Shared} {a C : Addr} {d : Option Addr}
theorem inst_of (I : Inv X pins σ H s) (h : H a = some (.ext (ExP C d a))) (hd : d = none ∨ ∃ dd fs, d = some dd ∧ H dd = some (.xd fs)) : ∃ oe od, PySem.W.InstAt s.heap a oe C od := by
  have x : ObjOk X.prog X.w H s.heap a (.ext (ExP C d a)) := I.hok a _ h
  obtain ⟨⟨oe, vs, he, hz, hv⟩, _, _⟩ := x
  have hno : PySem.W.notCls oe = true := by unfold PySem.W.notCls; rw [hv] <;> rfl
  rcases hd with rfl | ⟨dd, fs, rfl, hx⟩
  · exact ⟨oe, none, he, hz.1, hno, by rw [hz.2]; trivial⟩
  · have x2 : ObjOk X.prog X.w H s.heap dd (.xd fs) := I.hok dd _ hx
    obtain ⟨mA, hns, _⟩ := x2
    obtain ⟨od, ho, _⟩ := lookIn_ns hns
    exact ⟨oe, some od, he, hz.1, hno, by rw [hz.2]; exact ho⟩
theorem AtOk.dict {F H : Hp} {y : PyData} {d : Option Addr} (k : Same F H) (h : AtOk F y d) : d = none ∨ ∃ dd fs, d = some dd ∧ H dd = some (.xd fs) := by
  rcases h with ⟨_, e⟩ | ⟨dd, i, w, _, e, h2, _⟩
  · exact .inl e
  · exact .inr ⟨dd, _, e, k _ _ h2⟩
theorem clsSome {K : PySem.W.Frag} {D : Addr} (h : PySem.W.hasDictIn K D = true) : (PySem.W.clsIn K D).isSome = true := by
  obtain ⟨cd, hc, _⟩ := PySem.W.any_some h
  rw [hc]; rfl
def rIsX (K : PySem.W.Frag) : List V → Hp → VK → Prop := fun xs H Q => ∃ (a C : Addr) (d : Option Addr) (c : V) (cv : Value) (b : Bool), xs = [.ref a, c] ∧ H a = some (.ext (ExP C d a)) ∧ (d = none ∨ ∃ dd fs, d = some dd ∧ H dd = some (.xd fs)) ∧ (∀ u, RelV c u → u = cv) ∧ ExcC K C ∧ PySem.W.kitOne K (.ref C) cv = some b ∧ Q (.bl b) H
theorem call_isX : CallR X (.builtin "isinstance") (rIsX X.K) := by
  intro pins s σ H xs us Q I r h
  obtain ⟨a, D, d, c, cv, b, rfl, ha, hd, hcv, C, e, q⟩ := h
  cases r with
  | cons rx rr =>
    cases rr with
    | cons rt rr =>
      cases rr
      cases rx
      have ec := hcv _ rt
      subst ec
      obtain ⟨oe, od, J⟩ := inst_of I ha hd
      exact PySem.W.kia_one (PySem.W.kitx_exc (clsSome C.hd) C.hg C.hk C.hs C.ha C.hn C.ht C.hm) I.kIn J e (fun z => nomatch z) fun tk => ⟨.bl b, H, I.kept (t' := tk) fun _ _ z => z, rfl, q⟩
def rIsXT (K : PySem.W.Frag) (cvs : List Value) : List V → Hp → VK → Prop := fun xs H Q => ∃ (a C : Addr) (d : Option Addr) (p : Addr) (cs : List V) (b : Bool), xs = [.ref a, .ref p] ∧ H p = some (.tup cs) ∧ H a = some (.ext (ExP C d a)) ∧ (d = none ∨ ∃ dd fs, d = some dd ∧ H dd = some (.xd fs)) ∧ (∀ us, Vals cs us → us = cvs) ∧ ExcC K C ∧ PySem.W.kitAny K (.ref C) cvs = some b ∧ Q (.bl b) H
theorem call_isXT {cvs : List Value} : CallR X (.builtin "isinstance") (rIsXT X.K cvs) := by
  intro pins s σ H xs us Q I r h
  obtain ⟨a, D, d, p, cs, b, rfl, hp, ha, hd, hcv, C, e, q⟩ := h
  cases r with
  | cons rx rr =>
    cases rr with
    | cons rt rr =>
      cases rr
      cases rx
      cases rt
      obtain ⟨oe, od, J⟩ := inst_of I ha hd
      have x : ObjOk X.prog X.w H s.heap p (.tup cs) := I.hok p _ hp
      obtain ⟨_, its, rv, ht⟩ := x
      have := hcv its rv
      subst this
      obtain ⟨o, ho, hc, n, hdt⟩ := ht
      obtain ⟨c0, d0, dt0, sl0⟩ := o
      dsimp only at hc hdt
      subst hc hdt
      exact PySem.W.kia_tup (PySem.W.kitx_exc (clsSome C.hd) C.hg C.hk C.hs C.ha C.hn C.ht C.hm) I.kIn J ho e (fun z => nomatch z) fun tk => ⟨.bl b, H, I.kept (t' := tk) fun _ _ z => z, rfl, q⟩
end
def AVal.dat? : AVal → Option PyData
  | .d x => some x
  | _ => none
theorem AVal.dat?_of {x : AVal} {d : PyData} (h : x.dat? = some d) : x = .d d := by
  cases x <;> cases h <;> rfl
/-- isinstance(x, nm) of an error x -/
def isiX (E : ExT) (L : List XN) (nm : Str) (ta : TEA) : TEA := fun s Q => ta s fun x s1 => onSome x.dat? fun d => onSome (exOf E d) fun p => p.1 ∈ L ∧ Q (.d (.bool (subX p.1 nm))) s1
def isiXT (E : ExT) (L : List XN) (nms : List Str) (ta : TEA) : TEA := fun s Q => ta s fun x s1 => onSome x.dat? fun d => onSome (exOf E d) fun p => p.1 ∈ L ∧ Q (.d (.bool (nms.any fun nm => subX p.1 nm))) s1
def atX (E : ExT) (ta : TEA) : TEA := fun s Q => ta s fun x s1 => onSome x.dat? fun d => onSome (exOf E d) fun p => p.1 = .step ∧ ∃ z, p.2 = .list [z] ∧ Q (.d z) s1
section
variable {X : Cx} {B : Bs} {E : ExT} {L : List XN} {nm : Str} {e : Expr} {ta : TEA} {q1 q2 pos : Pos} {c : V} {cv : Value}
theorem ea_isiX (hm : X.mg "isinstance" = none) (ha : EA X B e ta) (hcn : PE X (.Name nm pos) (tC c)) (hcv : ∀ u, RelV c u → u = cv) (hC : ∀ n ∈ L, ExcC X.K (E.c n)) (hk : ∀ n ∈ L, PySem.W.kitOne X.K (.ref (E.c n)) cv = some (subX n nm))
    (hg : Gl X "isinstance" := by rfl) (l : Pl X e [.Name nm pos] q2 := by exact ⟨rfl, rfl⟩) (l2 : starEach [.Name nm pos] X.env = [(false, eval (.Name nm pos) X.env)] := by rfl) : EA X B (.Call (.Name "isinstance" q1) [e, .Name nm pos] [] q2) (isiX E L nm ta) := ⟨fun ad F H s σ Q r t =>
  we_of (pe_callB call_isX hg hm (by decide +kernel) (pa_cons pe_we (pa_cons hcn pa_nil l2) l.he) (by decide) (by decide) l.he l.hpl) ((ha.run ad F H s σ _ r t).imp fun v H1 q => by
    obtain ⟨ad1, F1, x, s1, e1, k1, r1, hv2, d, hd, p, hp, hL, q⟩ := q
    have := AVal.dat?_of hd
    subst this
    have hex : ∃ C y, d = errD C y := by
      unfold exOf at hp
      split at hp
      · rename_i C y
        obtain ⟨n, hn, rfl⟩ := Option.map_eq_some_iff.mp hp
        have hd := List.find?_some hn
        have := of_decide_eq_true hd
        exact ⟨E.c n, y, by unfold errD exK; rw [← this]⟩
      · cases hp
    obtain ⟨C, y, rfl⟩ := hex
    obtain ⟨rfl, rfl⟩ := exOf_err hp
    obtain ⟨a, dx, rfl, h1, h2⟩ := Da.ofErr hv2
    exact ⟨a, E.c p.1, dx, c, cv, subX p.1 nm, rfl, r1.fh _ _ h1, AtOk.dict r1.fh h2, hcv, hC _ hL, hk _ hL, (Post.here (x := .d (.bool (subX p.1 nm))) r1 rfl q).up e1 k1⟩)⟩
theorem ex_data {d : PyData} {p : XN × PyData} (hp : exOf E d = some p) : d = errD (E.c p.1) p.2 := by
  unfold exOf at hp
  split at hp
  · rename_i C y
    obtain ⟨n, hn, rfl⟩ := Option.map_eq_some_iff.mp hp
    have hd := List.find?_some hn
    have := of_decide_eq_true hd
    unfold errD exK; rw [← this]
  · cases hp
theorem ea_isiXT {nms : List Str} {cs : List V} {cvs : List Value} {te : Expr} {tt : TE} (hm : X.mg "isinstance" = none) (ha : EA X B e ta) (hcn : PE X te tt) (htt : ∀ σ H Q, (∀ p, H p = none → Q (.ref p) (upd H p (.tup cs))) → tt σ H Q) (hcv : ∀ us, Vals cs us → us = cvs) (hC : ∀ n ∈ L, ExcC X.K (E.c n))
    (hk : ∀ n ∈ L, PySem.W.kitAny X.K (.ref (E.c n)) cvs = some (nms.any fun nm => subX n nm))
    (hg : Gl X "isinstance" := by rfl) (l : Pl X e [te] q2 := by exact ⟨rfl, rfl⟩) (l2 : starEach [te] X.env = [(false, eval te X.env)] := by rfl) : EA X B (.Call (.Name "isinstance" q1) [e, te] [] q2) (isiXT E L nms ta) := ⟨fun ad F H s σ Q r t =>
  we_of (pe_callB (call_isXT (cvs := cvs)) hg hm (by decide +kernel) (pa_cons pe_we (pa_cons hcn pa_nil l2) l.he) (by decide) (by decide) l.he l.hpl) ((ha.run ad F H s σ _ r t).imp fun v H1 q => by
    obtain ⟨ad1, F1, x, s1, e1, k1, r1, hv2, d, hd, p, hp, hL, q⟩ := q
    have := AVal.dat?_of hd
    subst this
    obtain rfl := ex_data hp
    obtain ⟨a, dx, rfl, h1, h2⟩ := Da.ofErr hv2
    refine htt _ _ _ fun pt hpt => ?_
    have g : Gr F1 H1 (upd F1 pt (.tup cs)) (upd H1 pt (.tup cs)) := (Gr.refl r1.fh).shut hpt
    have r2 := r1.gr g
    exact ⟨a, E.c p.1, dx, pt, cs, _, rfl, upd_same, r2.fh _ _ (g.ff _ _ h1), AtOk.dict r2.fh (h2.mono g.ff), hcv, hC _ hL, hk _ hL, (Post.here (x := .d (.bool (nms.any fun nm => subX p.1 nm))) r2 rfl q).up e1 (k1.trans g.ff)⟩)⟩
end
/-! ### NoStep(at): its own __init__ -/
def tKeI (K : PySem.W.Frag) (ta : TA) : TE := fun σ H Q => ta σ H fun vs H1 => ∃ (a C : Addr) (ws : List V), vs = .ref a :: ws ∧ ws.length ≤ 1000 ∧ OexC K C ∧ H1 a = some (exo a C none) ∧ Q .non H1
/-- what the text says of NoStep (at C) and of its base's __init__ -/
structure StepT (K : PySem.W.Frag) (mg : Str → Option Value) (C Ck fI : Addr) : Prop where
  o : OexC K C
  g : mg "NoStep" = some (.ref C)
  gk : mg "KeyroomError" = some (.ref Ck)
  iC : PySem.W.findIn K (.ref C) "__init__" = some (some (.ref fI))
  tI : PySem.W.typeIn K (.ref fI) = some (.type "function")
  no : PySem.W.findIn K (.ref C) "at" = some none
  sp : PySem.W.specialIn K (.ref Ck) "__getattribute__" = some (some (.builtin "type.__getattribute__"))
  rd : PySem.W.readsIn K Ck (.type "type") = true
  fc : PySem.W.findCls K (.ref Ck) (.type "type") "__init__" = some (.val (.builtin "ValueError.__init__"))
section
variable {X : Cx} {C Ck fI : Addr} {e : Expr} {es : List Expr} {ta : TA} {p1 p2 p pos : Pos}
theorem pe_keinit {pl : Sem Bool} (T : StepT X.K X.mg C Ck fI) (hg : Gl X "KeyroomError") (ha : PA X (e :: es) ta)
    (hc : eval (.Call (.Attribute (.Name "KeyroomError" p1) "__init__" p2) (e :: es) [] pos) X.env = (do
      let ov ← eval (.Name "KeyroomError" p1) X.env
      standAt p2.atName
      let (f, first) ← holding [ov] (getMethod ov "__init__" pl)
      callWith pos f first (backTo pos (starEach (e :: es) X.env)) (backToKw pos (keywordEach [] X.env))) := by rfl)
    (he : starEach (e :: es) X.env = (false, eval e X.env) :: starEach es X.env := by rfl) (hpl : (backTo pos (starEach es X.env)).any (·.1) = false := by rfl) :
    PE X (.Call (.Attribute (.Name "KeyroomError" p1) "__init__" p2) (e :: es) [] pos) (tKeI X.K ta) := by
  refine ⟨fun pins s σ H Q I h => ?_⟩
  refine PySem.W.methodCall_KW (ld_glob I hg T.gk ?_ (by decide)) hc
  refine PySem.W.method_cls I.kIn T.sp (PySem.W.cls_value I.kIn T.rd T.fc (by decide +kernel) ?_)
  show wpAny _ _ (callWith pos (Value.builtin "ValueError.__init__") [] (backTo pos (starEach (e :: es) X.env)) []) _ _ _
  refine PyProof.Rows.callWith_method1 (thn (ha.run pos pins _ σ H _ (I.tok _) h) fun us s1 ⟨vs, H1, I1, r1, a, C, ws, ev, hl, T, ea, q⟩ => ?_) he hpl
  subst ev
  cases r1 with
  | @cons _ u0 _ ur ra rw' =>
    obtain rfl : u0 = Value.ref a := ra
    have hlen : ur.length ≤ sizeLine := by
      rw [← Paired.length rw', sizeLine_eq]
      omega
    exact oinit_ok T I1 ea hlen fun s' J => ⟨.non, H1, J, rfl, q⟩
end
/-- NoStep.__init__(self, at) -/
def spInit (K : PySem.W.Frag) : Sp := fun vs H Q _ => ∃ (a C : Addr) (v : V), vs = [.ref a, v] ∧ OexC K C ∧ PySem.W.findIn K (.ref C) "at" = some none ∧ H a = some (exo a C none) ∧ ∀ dx, H dx = none → dx ≠ a → Q .non (upd (upd H dx (exd dx [(("at" : Str), v)])) a (exo a C (some dx)))
section
variable {P : Program} {w : World} {K : PySem.W.Frag} {mg : Str → Option Value} {base : Heap} {C Ck fI : Addr} {fd : FuncData} {st : Stmt}
theorem ok_init {p1 p2 p3 p4 p5 p6 p7 p8 p9 q1 : Pos} {j : Nat} {m : Str} (F : Fun K "__init__" "NoStep.__init__" st fI fd) (S : FnScope ["self", "at"] ["self", "at"] (defScope st)) (T : StepT K mg C Ck fI)
    (hb : defBody st = [.Expr (.Call (.Attribute (.Name "KeyroomError" p1) "__init__" p2) [.Name "self" p3, .Constant (.str m) j p4] [] p5) p6, .Assign [.Attribute (.Name "self" p7) "at" p8] (.Name "at" p9) q1])
    (body : ∀ (cdv : Value) (A : Around) (outer : List Env) (s : Shared) (H : Hp) (E : XK), ∃ t, PSs (cxOf CX0 P w K mg base ["self", "at"] "NoStep.__init__" (defScope st) fI cdv A outer s H E).nox (defBody st) t ∧
      t = tSeq (tDrop (tKeI K (tCons (tVar 0) (tCons (tC (.str m)) tNil)))) (tOst K "at" (tVar 0) (tVar 1))) : FnOk P w K mg base CX0 1 fI fd ["self", "at"] (spInit K) := by
  refine F.ok S (fun vs H Q E ⟨a, C, v, e, _⟩ => by rw [e]; rfl) fun cdv A outer s H vs Q E hr h => ?_
  obtain ⟨a, C, v, rfl, hO, hno, ha, q⟩ := h
  obtain ⟨t, h1, rfl⟩ := body cdv A outer s H E
  refine ⟨_, h1, ?_⟩
  refine ⟨.ref a, rfl, a, C, [.str m], rfl, Nat.le_of_ble_eq_true rfl, hO, ha, ?_⟩
  exact ⟨v, rfl, .ref a, rfl, a, C, rfl, hO, hno, .inl ⟨ha, fun dx hd hne => q dx hd hne⟩⟩
end
def flatX : AVal → Option PyData
  | .d .none => some .none
  | .d (.int n) => some (.int n)
  | _ => none
theorem flatX_ok {ad : List Addr} {F : Hp} {x : AVal} {z : PyData} {v : V} (h : flatX x = some z) (hv : VOk ad F x v) : (z = .none ∧ v = .non) ∨ ∃ n, z = .int n ∧ v = .int n := by
  unfold flatX at h
  split at h
  · cases h; exact .inl ⟨rfl, hv⟩
  · rename_i n; cases h; exact .inr ⟨n, rfl, hv⟩
  · cases h
def raiseStepA (W : PyData → AS → Prop) (C : Addr) (ta : TEA) : TSA := fun _ s => ta s fun x s1 => onSome (flatX x) fun z => W (errD C (.list [z])) s1
section
variable {X : Cx} {B : Bs} {W : PyData → AS → Prop} {C Ck fI : Addr} {fd : FuncData} {e : Expr} {ta : TEA} {p pos pos2 : Pos} {k : Nat}
theorem sa_raiseStep (hc : X.calm = true) (tk : Takes X (Lx B W)) (T : StepT X.K X.mg C Ck fI) (F1 : FnOk X.prog X.w X.K X.mg X.base CX0 1 fI fd ["self", "at"] (spInit X.K)) (hb : Binds X.K fd ["self", "at"] []) (hr : Room 2 X.A) (ha : EA X B e ta)
    (hg : Gl X "NoStep" := by rfl) (l : Pl X e [] pos2 := by exact ⟨rfl, rfl⟩) : SA X B (.Raise (some (.Call (.Name "NoStep" p) [e] [] pos2)) none pos) (raiseStepA W C ta) := ⟨fun D s h ad F H σ r =>
  ws_of (ps_raise hc tk (pmk_oex (k := 1) T.o T.iC T.tI F1 hr hb .nil (fun _ _ _ _ _ _ _ z => z.elim) hg T.g (pa_cons pe_we pa_nil l.he) (by decide) l.he l.hpl)) ((ha.run ad F H s σ _ r h).imp fun v H1 q => by
    obtain ⟨ad1, F1, x, s1, e1, k1, r1, hv, z, hz, q⟩ := q
    have hfl := flatX_ok hz hv
    refine ⟨Nat.le_of_ble_eq_true rfl, fun a na => ⟨a, C, v, rfl, T.o, T.no, upd_same, fun dx hd hne => ⟨rfl, dx, [(("at" : Str), v)], upd_same, ?_, ?_, ?_⟩⟩⟩
    · rw [upd_ne hne, upd_same]
    · rw [upd_ne hne] at hd; exact hd
    · have hd1 : H1 dx = none := by rw [upd_ne hne] at hd; exact hd
      have eH : upd (L2.del (upd (upd (upd H1 a (exo a C none)) dx (exd dx [(("at" : Str), v)])) a (exo a C (some dx))) a) dx (.xd [(("at" : Str), v)]) = upd H1 dx (.xd [(("at" : Str), v)]) := by
        funext b
        by_cases hb : b = dx
        · subst hb; rw [upd_same, upd_same]
        · rw [upd_ne hb, upd_ne hb]
          by_cases hba : b = a
          · subst hba; rw [del_same, na]
          · rw [del_ne hba, upd_ne hba, upd_ne hb, upd_ne hba]
      show Lx B W (.ref C) (some dx) σ _
      rw [eH]
      have g : Gr F1 H1 (upd F1 dx (.xd [(("at" : Str), v)])) (upd H1 dx (.xd [(("at" : Str), v)])) := (Gr.refl r1.fh).shut hd1
      exact ⟨C, .list [z], ad1, _, s1, rfl, .inr ⟨dx, z, v, rfl, rfl, upd_same, hfl⟩, r1.gr g, q⟩)⟩
end
end Kr
/-! layer A30 -/
namespace Kr
open PySem L2
/-! ## facts of the text about errors, gathered -/
theorem fl_nil {p : XN → Prop} : ∀ n ∈ ([] : List XN), p n := fun _ h => nomatch h
theorem fl_cons {p : XN → Prop} {a : XN} {l : List XN} (h : p a) (t : ∀ n ∈ l, p n) : ∀ n ∈ a :: l, p n := fun n m => by
  rcases List.mem_cons.mp m with rfl | m
  · exact h
  · exact t n m
def XN.ix : XN → Nat
  | .house => 0 | .plain => 1 | .order => 2 | .number => 3 | .kind => 4 | .many => 5 | .text => 6 | .row => 7 | .step => 8
theorem XN.ix_inj {a b : XN} (h : a.ix = b.ix) : a = b := by cases a <;> cases b <;> first | rfl | cases h
theorem XN.ix_lt (a : XN) : a.ix < 9 := by cases a <;> decide
def mkE (l : List Addr) (hl : l.length = 9) (nd : l.Nodup) : ExT where
  c n := l.getD n.ix 0
  inj a b h := XN.ix_inj (by
    have ha : a.ix < l.length := by rw [hl]; exact a.ix_lt
    have hb : b.ix < l.length := by rw [hl]; exact b.ix_lt
    rw [List.getD_eq_getElem?_getD, List.getD_eq_getElem?_getD, List.getElem?_eq_getElem ha, List.getElem?_eq_getElem hb] at h
    exact (List.getElem_inj nd).mp h)
theorem kitAny_nil {K : PySem.W.Frag} {t : Value} {f : Str → Bool} : PySem.W.kitAny K t [] = some (([] : List Str).any f) := rfl
theorem kitAny_cons {K : PySem.W.Frag} {t cv : Value} {cvs : List Value} {nm : Str} {nms : List Str} {f : Str → Bool} (h0 : PySem.W.kitOne K t cv = some (f nm)) (h : PySem.W.kitAny K t cvs = some (nms.any f)) : PySem.W.kitAny K t (cv :: cvs) = some ((nm :: nms).any f) := by
  unfold PySem.W.kitAny
  rw [h0]
  cases hf : f nm with
  | true => simp [hf]
  | false => simp only [List.any_cons, hf, Bool.false_or]; exact h
theorem vals_refs : ∀ {as : List Addr} {us : List Value}, Vals (as.map V.ref) us → us = as.map Value.ref
  | [], _, .nil => rfl
  | a :: as, _, .cons h t => by
    obtain rfl := (show _ = Value.ref a from h)
    rw [vals_refs t]; rfl
theorem exc_mk {K : PySem.W.Frag} {D : Addr} (hg : PySem.W.findIn K (.ref D) "__getattribute__" = some (some (.builtin "BaseException.__getattribute__"))) (hk : PySem.W.findIn K (.ref D) "__getattr__" = some none) (hs : PySem.W.subIn K (.ref D) (.type "BaseException") = some true) (hd : PySem.W.hasDictIn K D = true)
    (ha : PySem.W.findIn K (.ref D) "__class__" = some (some (.builtin "object.__class__"))) (hn : PySem.W.specialIn K (.builtin "object.__class__") "__get__" = some (some (.builtin "getset_descriptor.__get__"))) (ht : PySem.W.takesIn K (.builtin "object.__class__") = some true) (hm : PySem.W.mroIn K D (.type "object") = some true) : ExcC K D := ⟨hg, hk, hs, hd, ha, hn, ht, hm⟩
abbrev veTail' : List Value := [.type "ValueError", .type "Exception", .type "BaseException", .type "object"]
end Kr
/-! layer A31 -/
namespace Kr
open PySem L2
/-! ## count and index in lists of truths, numbers, texts -/
def isBl (b : Bool) : Value → Bool
  | .bool c => c == b
  | _ => false
theorem isBl_count {b : Bool} : ∀ {us : List Value} {xs : List Bool}, Vals (xs.map V.bl) us → us.countP (isBl b) = xs.count b ∧ ∀ y ∈ us, ∃ c, y = .bool c
  | [], [], _ => ⟨rfl, fun _ h => nomatch h⟩
  | [], z :: xs, h => nomatch h
  | u :: us, [], h => nomatch h
  | u :: us, z :: xs, h => by
    cases h with
    | cons h1 h2 =>
      obtain rfl := (show u = .bool z from h1)
      obtain ⟨e1, e2⟩ := isBl_count h2
      refine ⟨by rw [List.countP_cons, List.count_cons, e1]; rfl, fun y hy => ?_⟩
      rcases List.mem_cons.mp hy with e | e
      · exact ⟨z, e⟩
      · exact e2 y e
section
variable {X : Cx}
def rCntB (K : PySem.W.Frag) : V → List V → Hp → VK → Prop := fun v vs H Q => ∃ (p : Addr) (xs : List Bool) (x : Bool), v = .ref p ∧ vs = [.bl x] ∧ SqL K H p (xs.map V.bl) ∧ Q (.int (xs.count x : Nat)) H
theorem mt_countB : MtR X "list.count" (rCntB X.K) := by
  intro pins s σ H v vs a us Q I ra rs h
  obtain ⟨p, xs, x, rfl, rfl, hs, q⟩ := h
  cases ra
  obtain ⟨u, rfl, hu⟩ := rs.one
  obtain rfl := (show u = .bool x from hu)
  obtain ⟨its, rv, ⟨⟨cls, dd, data, sl⟩, n, ho, hc, hdn, hd⟩, hlen⟩ := I.list hs
  simp only at hc hd
  subst hc hd
  obtain ⟨ec, eb⟩ := isBl_count (b := x) rv
  refine call_meets PySem.F.slot_list_count ⟨_, ho, rfl⟩ PySem.F.entry_list_count (PySem.F.args_list_count_2 _ _)
    (SeqAt.list_countAt p its.toArray n dd sl (.bool x) (isBl x)) ⟨ho, fun y hy => ?_, .int (xs.count x : Nat), H, I.tok _, ⟨s.toks, ?_⟩, q⟩
  · obtain ⟨c, rfl⟩ := eb y (by simpa using hy)
    exact eqAt_V (y := .bl c) (x := .bl x) rfl rfl rfl rfl
  · rw [show its.toArray.toList.countP (isBl x) = xs.count x from ec]
end
def flatP : PyData → Bool
  | .none => true
  | .bool _ => true
  | .int _ => true
  | .str _ => true
  | _ => false
def toV : PyData → V
  | .bool b => .bl b
  | .int i => .int i
  | .str x => .str x
  | _ => .non
def eqP (d e : PyData) : Bool := eqV (toV d) (toV e)
theorem flatP_da {F : Hp} {d : PyData} {v : V} (h : Da F d v) (f : flatP d = true) : v = toV d ∧ flatV v = true := by
  cases d with
  | none => obtain rfl : v = .non := h; exact ⟨rfl, rfl⟩
  | bool c => obtain rfl : v = .bl c := h; exact ⟨rfl, rfl⟩
  | int c => obtain rfl : v = .int c := h; exact ⟨rfl, rfl⟩
  | str c => obtain rfl : v = .str c := h; exact ⟨rfl, rfl⟩
  | _ => cases f
theorem flatP_all {F : Hp} : ∀ {ds : List PyData} {vs : List V}, DaAll F ds vs → ds.all flatP = true → vs = ds.map toV ∧ vs.all flatV = true
  | [], _, h, _ => by obtain rfl := (show _ = [] from h); exact ⟨rfl, rfl⟩
  | d :: ds, _, h, f => by
    obtain ⟨v, r, rfl, h1, h2⟩ := (show ∃ v r, _ = v :: r ∧ Da F d v ∧ DaAll F ds r from h)
    simp only [List.all_cons, Bool.and_eq_true] at f
    obtain ⟨e1, e2⟩ := flatP_da h1 f.1
    obtain ⟨e3, e4⟩ := flatP_all h2 f.2
    subst e3
    exact ⟨by rw [List.map_cons, ← e1], by rw [List.all_cons, e2, e4]; rfl⟩
def bools? : List PyData → Option (List Bool)
  | [] => some []
  | .bool b :: r => (bools? r).map (b :: ·)
  | _ :: _ => none
theorem bools?_of : ∀ {ds : List PyData} {bs : List Bool}, bools? ds = some bs → ds = bs.map .bool
  | [], bs, h => by cases h; rfl
  | .bool b :: r, bs, h => by
    have h' : (bools? r).map (b :: ·) = some bs := h
    cases hr : bools? r with
    | none => rw [hr] at h'; cases h'
    | some l => rw [hr] at h'; cases h'; rw [bools?_of hr]; rfl
  | .none :: _, _, h => by cases h
  | .int _ :: _, _, h => by cases h
  | .str _ :: _, _, h => by cases h
  | .list _ :: _, _, h => by cases h
  | .tuple _ :: _, _, h => by cases h
  | .dict _ :: _, _, h => by cases h
def countBA (x : AVal) (xs : List AVal) : TEA := fun s Q => one (fun y => onSome (listOf s x) fun ds => onSome (bools? ds) fun bs => onSome y.bool? fun z => Q (.d (.int (bs.count z : Nat))) s) xs
def indexA (x : AVal) (xs : List AVal) : TEA := fun s Q => one (fun y => onSome (listOf s x) fun ds => onSome y.dat? fun z => ds.all flatP = true ∧ flatP z = true ∧ onSome (ds.findIdx? fun d => eqP d z) fun j => Q (.d (.int (j : Nat))) s) xs
section
variable {X : Cx} {B : Bs}
theorem m_countB : MtA X B "list.count" countBA := fun ad F H s σ x xs u us Q r hx hp t => by
  obtain ⟨y, w, rfl, rfl, hy, ds, ed, ss, es, z, ez, q⟩ := one_ok t hp
  have := AVal.bool?_of ez
  subst this
  obtain ⟨l, vs, rfl, h1, h2⟩ := hx.list r ed
  have := bools?_of es
  subst this
  have e := (flatP_all h2 (by simp [flatP])).1
  rw [List.map_map] at e
  obtain rfl := e
  obtain rfl : w = .bl z := hy
  exact ⟨_, mt_countB, l, ss, z, rfl, rfl, SqL.of h1, .here (x := .d (.int (ss.count z : Nat))) r rfl q⟩
theorem m_index : MtA X B "list.index" indexA := fun ad F H s σ x xs u us Q r hx hp t => by
  obtain ⟨y, w, rfl, rfl, hy, ds, ed, z, ez, f1, f2, j, hj, q⟩ := one_ok t hp
  have := AVal.dat?_of ez
  subst this
  obtain ⟨l, vs, rfl, h1, h2⟩ := hx.list r ed
  obtain ⟨rfl, f3⟩ := flatP_all h2 f1
  obtain ⟨rfl, f4⟩ := flatP_da hy f2
  obtain ⟨hjl, hjp, hjn⟩ := List.findIdx?_eq_some_iff_getElem.mp hj
  refine ⟨_, mt_index, l, ds.map toV, toV z, j, toV ds[j], rfl, rfl, SqL.of h1, f4, f3, by rw [List.getElem?_map, List.getElem?_eq_getElem hjl]; rfl, hjp, fun m z' hm hz' => ?_, .here (x := .d (.int (j : Nat))) r rfl q⟩
  rw [List.getElem?_map, List.getElem?_eq_getElem (by omega)] at hz'
  cases hz'
  have := hjn m hm
  simpa [eqP] using this
end
/-! ## tuple(list) -/
def tupleA (xs : List AVal) : TEA := fun s Q => one (fun x => onSome (listOf s x) fun ds => Q (.d (.tuple ds)) s) xs
end Kr
/-! layer A32 -/
namespace Kr
open PySem L2 PySem.Spec PyProof.Rows
/-! ## repr of any data (dicts of flat things) -/
mutual
def rpD : PyData → Bool
  | .list ds => rpAll ds
  | .tuple ds => rpAll ds
  | .dict kvs => kvs.all fun p => flatP p.1 && flatP p.2
  | _ => true
def rpAll : List PyData → Bool
  | [] => true
  | d :: ds => rpD d && rpAll ds
end
structure RpOk (d : PyData) : Prop where
  p : rpD d = true
  s : d.showable = true
  n : d.depth ≤ 60
  z : d.shown.length ≤ sizeLine
def reprXA (xs : List AVal) : TEA := fun s Q => one (fun x => onSome x.dat? fun d => RpOk d ∧ Q (.d (.str d.shown)) s) xs
end Kr
/-! layer A33 -/
namespace Kr
open PySem L2
/-! ## the simp set for errors -/
theorem sx_house_NoHouse : subX .house "NoHouse" = true := by decide +kernel
theorem sx_house_NoPlain : subX .house "NoPlain" = false := by decide +kernel
theorem sx_house_NoOrder : subX .house "NoOrder" = false := by decide +kernel
theorem sx_house_NoNumber : subX .house "NoNumber" = false := by decide +kernel
theorem sx_house_NoKind : subX .house "NoKind" = false := by decide +kernel
theorem sx_house_TooMany : subX .house "TooMany" = false := by decide +kernel
theorem sx_house_NoText : subX .house "NoText" = false := by decide +kernel
theorem sx_house_NoRow : subX .house "NoRow" = false := by decide +kernel
theorem sx_house_NoStep : subX .house "NoStep" = false := by decide +kernel
theorem sx_house_KeyroomError : subX .house "KeyroomError" = true := by decide +kernel
theorem sx_house_ValueError : subX .house "ValueError" = true := by decide +kernel
theorem sx_house_KeyError : subX .house "KeyError" = false := by decide +kernel
theorem sx_plain_NoHouse : subX .plain "NoHouse" = false := by decide +kernel
theorem sx_plain_NoPlain : subX .plain "NoPlain" = true := by decide +kernel
theorem sx_plain_NoOrder : subX .plain "NoOrder" = false := by decide +kernel
theorem sx_plain_NoNumber : subX .plain "NoNumber" = false := by decide +kernel
theorem sx_plain_NoKind : subX .plain "NoKind" = false := by decide +kernel
theorem sx_plain_TooMany : subX .plain "TooMany" = false := by decide +kernel
theorem sx_plain_NoText : subX .plain "NoText" = false := by decide +kernel
theorem sx_plain_NoRow : subX .plain "NoRow" = false := by decide +kernel
theorem sx_plain_NoStep : subX .plain "NoStep" = false := by decide +kernel
theorem sx_plain_KeyroomError : subX .plain "KeyroomError" = true := by decide +kernel
theorem sx_plain_ValueError : subX .plain "ValueError" = true := by decide +kernel
theorem sx_plain_KeyError : subX .plain "KeyError" = false := by decide +kernel
theorem sx_order_NoHouse : subX .order "NoHouse" = false := by decide +kernel
theorem sx_order_NoPlain : subX .order "NoPlain" = false := by decide +kernel
theorem sx_order_NoOrder : subX .order "NoOrder" = true := by decide +kernel
theorem sx_order_NoNumber : subX .order "NoNumber" = false := by decide +kernel
theorem sx_order_NoKind : subX .order "NoKind" = false := by decide +kernel
theorem sx_order_TooMany : subX .order "TooMany" = false := by decide +kernel
theorem sx_order_NoText : subX .order "NoText" = false := by decide +kernel
theorem sx_order_NoRow : subX .order "NoRow" = false := by decide +kernel
theorem sx_order_NoStep : subX .order "NoStep" = false := by decide +kernel
theorem sx_order_KeyroomError : subX .order "KeyroomError" = true := by decide +kernel
theorem sx_order_ValueError : subX .order "ValueError" = true := by decide +kernel
theorem sx_order_KeyError : subX .order "KeyError" = false := by decide +kernel
theorem sx_number_NoHouse : subX .number "NoHouse" = false := by decide +kernel
theorem sx_number_NoPlain : subX .number "NoPlain" = false := by decide +kernel
theorem sx_number_NoOrder : subX .number "NoOrder" = false := by decide +kernel
theorem sx_number_NoNumber : subX .number "NoNumber" = true := by decide +kernel
theorem sx_number_NoKind : subX .number "NoKind" = false := by decide +kernel
theorem sx_number_TooMany : subX .number "TooMany" = false := by decide +kernel
theorem sx_number_NoText : subX .number "NoText" = false := by decide +kernel
theorem sx_number_NoRow : subX .number "NoRow" = false := by decide +kernel
theorem sx_number_NoStep : subX .number "NoStep" = false := by decide +kernel
theorem sx_number_KeyroomError : subX .number "KeyroomError" = true := by decide +kernel
theorem sx_number_ValueError : subX .number "ValueError" = true := by decide +kernel
theorem sx_number_KeyError : subX .number "KeyError" = false := by decide +kernel
theorem sx_kind_NoHouse : subX .kind "NoHouse" = false := by decide +kernel
theorem sx_kind_NoPlain : subX .kind "NoPlain" = false := by decide +kernel
theorem sx_kind_NoOrder : subX .kind "NoOrder" = false := by decide +kernel
theorem sx_kind_NoNumber : subX .kind "NoNumber" = false := by decide +kernel
theorem sx_kind_NoKind : subX .kind "NoKind" = true := by decide +kernel
theorem sx_kind_TooMany : subX .kind "TooMany" = false := by decide +kernel
theorem sx_kind_NoText : subX .kind "NoText" = false := by decide +kernel
theorem sx_kind_NoRow : subX .kind "NoRow" = false := by decide +kernel
theorem sx_kind_NoStep : subX .kind "NoStep" = false := by decide +kernel
theorem sx_kind_KeyroomError : subX .kind "KeyroomError" = true := by decide +kernel
theorem sx_kind_ValueError : subX .kind "ValueError" = true := by decide +kernel
theorem sx_kind_KeyError : subX .kind "KeyError" = false := by decide +kernel
theorem sx_many_NoHouse : subX .many "NoHouse" = false := by decide +kernel
theorem sx_many_NoPlain : subX .many "NoPlain" = false := by decide +kernel
theorem sx_many_NoOrder : subX .many "NoOrder" = false := by decide +kernel
theorem sx_many_NoNumber : subX .many "NoNumber" = false := by decide +kernel
theorem sx_many_NoKind : subX .many "NoKind" = false := by decide +kernel
theorem sx_many_TooMany : subX .many "TooMany" = true := by decide +kernel
theorem sx_many_NoText : subX .many "NoText" = false := by decide +kernel
theorem sx_many_NoRow : subX .many "NoRow" = false := by decide +kernel
theorem sx_many_NoStep : subX .many "NoStep" = false := by decide +kernel
theorem sx_many_KeyroomError : subX .many "KeyroomError" = true := by decide +kernel
theorem sx_many_ValueError : subX .many "ValueError" = true := by decide +kernel
theorem sx_many_KeyError : subX .many "KeyError" = false := by decide +kernel
theorem sx_text_NoHouse : subX .text "NoHouse" = false := by decide +kernel
theorem sx_text_NoPlain : subX .text "NoPlain" = false := by decide +kernel
theorem sx_text_NoOrder : subX .text "NoOrder" = false := by decide +kernel
theorem sx_text_NoNumber : subX .text "NoNumber" = false := by decide +kernel
theorem sx_text_NoKind : subX .text "NoKind" = false := by decide +kernel
theorem sx_text_TooMany : subX .text "TooMany" = false := by decide +kernel
theorem sx_text_NoText : subX .text "NoText" = true := by decide +kernel
theorem sx_text_NoRow : subX .text "NoRow" = false := by decide +kernel
theorem sx_text_NoStep : subX .text "NoStep" = false := by decide +kernel
theorem sx_text_KeyroomError : subX .text "KeyroomError" = true := by decide +kernel
theorem sx_text_ValueError : subX .text "ValueError" = true := by decide +kernel
theorem sx_text_KeyError : subX .text "KeyError" = false := by decide +kernel
theorem sx_row_NoHouse : subX .row "NoHouse" = false := by decide +kernel
theorem sx_row_NoPlain : subX .row "NoPlain" = false := by decide +kernel
theorem sx_row_NoOrder : subX .row "NoOrder" = false := by decide +kernel
theorem sx_row_NoNumber : subX .row "NoNumber" = false := by decide +kernel
theorem sx_row_NoKind : subX .row "NoKind" = false := by decide +kernel
theorem sx_row_TooMany : subX .row "TooMany" = false := by decide +kernel
theorem sx_row_NoText : subX .row "NoText" = false := by decide +kernel
theorem sx_row_NoRow : subX .row "NoRow" = true := by decide +kernel
theorem sx_row_NoStep : subX .row "NoStep" = false := by decide +kernel
theorem sx_row_KeyroomError : subX .row "KeyroomError" = true := by decide +kernel
theorem sx_row_ValueError : subX .row "ValueError" = true := by decide +kernel
theorem sx_row_KeyError : subX .row "KeyError" = false := by decide +kernel
theorem sx_step_NoHouse : subX .step "NoHouse" = false := by decide +kernel
theorem sx_step_NoPlain : subX .step "NoPlain" = false := by decide +kernel
theorem sx_step_NoOrder : subX .step "NoOrder" = false := by decide +kernel
theorem sx_step_NoNumber : subX .step "NoNumber" = false := by decide +kernel
theorem sx_step_NoKind : subX .step "NoKind" = false := by decide +kernel
theorem sx_step_TooMany : subX .step "TooMany" = false := by decide +kernel
theorem sx_step_NoText : subX .step "NoText" = false := by decide +kernel
theorem sx_step_NoRow : subX .step "NoRow" = false := by decide +kernel
theorem sx_step_NoStep : subX .step "NoStep" = true := by decide +kernel
theorem sx_step_KeyroomError : subX .step "KeyroomError" = true := by decide +kernel
theorem sx_step_ValueError : subX .step "ValueError" = true := by decide +kernel
theorem sx_step_KeyError : subX .step "KeyError" = false := by decide +kernel
theorem dat?_d {x : PyData} : (AVal.d x).dat? = some x := rfl
theorem exOf_errE {E : ExT} {n : XN} {y : PyData} : exOf E (errD (E.c n) y) = some (n, y) := exOf_exD
theorem flatX_int {n : Int} : flatX (.d (.int n)) = some (.int n) := rfl
theorem flatX_none : flatX (.d .none) = some .none := rfl
theorem bools?_nil : bools? [] = some [] := rfl
theorem bools?_cons {b : Bool} {r : List PyData} : bools? (.bool b :: r) = (bools? r).map (b :: ·) := rfl
theorem noneV_err {C : Addr} {y : PyData} : noneV (.d (errD C y)) = some false := rfl
end Kr
/-! layer A34 -/
namespace Kr
open PySem L2
/-! ## a comprehension whose things are our own: they go into one tree -/
section
variable {X : Cx} {B : Bs} {σ : St} {F H : Hp} {elt tg iter c : Expr} {scope : Scope} {pos spos py : Pos} {own : List (Str × Nat)} {y : Str} {ti : TIO} {g : TGA} {tt : TTA} {te : TEA} {ks vs : List Nat}
theorem paired_snoc {α β : Type} {R : α → β → Prop} : ∀ {xs : List α} {ys : List β} {x : α} {y : β}, Paired R xs ys → R x y → Paired R (xs ++ [x]) (ys ++ [y])
  | _, _, _, _, .nil, h => .cons h .nil
  | _, _, _, _, .cons a t, h => .cons a (paired_snoc t h)
end
end Kr
/-! layer A35 -/
/-! layer A36 -/
namespace Kr
open PySem L2
/-! ## a call that takes things of our own as they stand, and tells a bare thing -/
def bareD : PyData → Bool
  | .none => true
  | .bool _ => true
  | .int _ => true
  | .str _ => true
  | _ => false
end Kr
/-! layer A37 -/
/-! layer A38 -/
namespace Kr
open PySem L2
/-! ## dicts keyed by tuples: nodes of trees -/
def keyOf1 : PyData → Option Key
  | .int i => some (.inl i)
  | .str x => some (.inr x)
  | _ => none
def keysOf1 : List PyData → Option (List Key)
  | [] => some []
  | d :: ds => (keyOf1 d).bind fun k => (keysOf1 ds).map (k :: ·)
def keyTd : AVal → Option (List Key)
  | .d (.tuple ds) => keysOf1 ds
  | _ => none
def dtN : Option (Nat × List Nat × Kd × Addr × List Tr) → Option (Nat × List Nat × List (List Key) × Addr × List Tr)
  | some (n, pt, .dctT ks, q, ts) => some (n, pt, ks, q, ts)
  | _ => none
def dtAt (s : AS) (x : AVal) : Option (Nat × List Nat × List (List Key) × Addr × List Tr) := dtN (nodeAt s x)
section
variable {X : Cx} {B : Bs} {ad : List Addr} {F H : Hp} {s : AS} {σ : St} {x y : AVal} {u v : V} {o e value : Expr} {pos tpos : Pos} {ta tb tc : TEA}
def memT {κ : Type} [DecidableEq κ] (k : κ) (ks : List κ) : Bool := ks.any fun j => decide (j = k)
theorem val_zip_some {κ : Type} [DecidableEq κ] {k : κ} : ∀ {ks : List κ} {vs : List V}, ks.length = vs.length → (valV (ks.zip vs) k).isSome = memT k ks
  | [], vs, _ => rfl
  | j :: ks, [], h => by cases h
  | j :: ks, v :: vs, h => by
    rw [List.zip_cons_cons, ← valV_any]
    unfold memT
    rw [List.any_cons, List.any_cons, valV_any, val_zip_some (by simpa using h)]
    rfl
theorem putK_new {κ : Type} [DecidableEq κ] {k : κ} {ks : List κ} {vs : List V} {v : V} (h : ks.length = vs.length) (hk : memT k ks = false) : putK (ks.zip vs) k v = (ks ++ [k]).zip (vs ++ [v]) := by
  unfold putK
  rw [valV_any, val_zip_some h, hk, if_neg (by decide), List.zip_append h]
  rfl
end
end Kr
/-! layer A39 -/
namespace Kr
open PySem L2
/-! ## objects: nodes of kind obj -/
section
variable {B : Bs} {ad : List Addr} {F H : Hp} {s : AS} {σ : St} {C dx p : Addr}
/-- a new object, with the dict that stands aside -/
theorem Rl.newO (r : Rl B ad F H s σ) (hp : H p = none) (hd : H dx = none) (hne : dx ≠ p) : Rl B (ad ++ [p]) F (upd (upd H dx (.own p)) p (.ins C dx [])) ⟨s.sl, s.cs ++ [.tr (.nd (.obj C dx []) p [])]⟩ σ := by
  obtain ⟨f1, f2, f3⟩ := r.fresh hp
  obtain ⟨g1, g2, g3⟩ := r.fresh hd
  have f4 : p ∉ s.cs.flatMap Cell.ads := fun z => (r.inn.fr p z).2 hp
  have g4 : dx ∉ s.cs.flatMap Cell.ads := fun z => (r.inn.fr dx z).2 hd
  have hFp : F p = none := r.fh.free hp
  have hFd : F dx = none := r.fh.free hd
  have up : ∀ b, b ≠ p → b ≠ dx → upd (upd H dx (.own p)) p (.ins C dx []) b = H b := fun b hb hb2 => by rw [upd_ne hb, upd_ne hb2]
  have upd' : upd (upd H dx (.own p)) p (.ins C dx []) dx = some (.own p) := by rw [upd_ne hne, upd_same]
  have keep : ∀ b o, H b = some o → upd (upd H dx (.own p)) p (.ins C dx []) b = some o := fun b o e => by
    rw [up b (ne_of_none e hp) (ne_of_none e hd)]; exact e
  have keepN : ∀ b, H b ≠ none → upd (upd H dx (.own p)) p (.ins C dx []) b ≠ none := fun b e => by
    obtain ⟨o, ho⟩ := some_of_ne e
    rw [keep b o ho]; exact fun z => nomatch z
  have hads : (s.cs ++ [Cell.tr (.nd (.obj C dx []) p [])]).flatMap Cell.ads = s.cs.flatMap Cell.ads ++ [p, dx] := by
    rw [List.flatMap_append]; rfl
  have memN : ∀ b, b ∈ (s.cs ++ [Cell.tr (.nd (.obj C dx []) p [])]).flatMap Cell.ads → b ∈ s.cs.flatMap Cell.ads ∨ b = p ∨ b = dx := fun b hb => by
    rw [hads] at hb
    simpa using hb
  have hlen := r.len
  have inn : Inn B (ad ++ [p]) F (upd (upd H dx (.own p)) p (.ins C dx [])) (s.cs ++ [.tr (.nd (.obj C dx []) p [])]) := by
    refine ⟨?_, fun b hb i hi => ?_, fun b hb => ?_, fun b hb => ?_, r.inn.old⟩
    · rw [hads, List.nodup_append]
      refine ⟨r.inn.nd, ?_, fun a ha b hb e => ?_⟩
      · simp; exact fun z => hne z.symm
      · subst e
        have : a = p ∨ a = dx := by simpa using hb
        rcases this with rfl | rfl
        · exact f4 ha
        · exact g4 ha
    · by_cases hil : i < ad.length
      · rw [List.getElem?_append_left hil] at hi
        rw [List.getElem?_append_left (by omega)]
        rcases memN b hb with hb | rfl | rfl
        · exact r.inn.off b hb i hi
        · exact absurd (List.mem_of_getElem? hi) f3
        · exact absurd (List.mem_of_getElem? hi) g3
      · have hi2 : i = ad.length := by
          have := (List.getElem?_eq_some_iff.mp hi).1
          simp at this; omega
        subst hi2
        rw [List.getElem?_append_right (Nat.le_refl _)] at hi
        have e : b = p := by have := List.mem_of_getElem? hi; simpa using this
        subst e
        exact .inr ⟨.nd (.obj C dx []) b [], by rw [hlen, List.getElem?_append_right (Nat.le_refl _)]; simp, rfl⟩
    · rcases memN b hb with hb | rfl | rfl
      · exact ⟨(r.inn.fr b hb).1, keepN b (r.inn.fr b hb).2⟩
      · exact ⟨hFp, ne_none upd_same⟩
      · exact ⟨hFd, ne_none upd'⟩
    · rcases memN b hb with hb | rfl | rfl
      · exact r.inn.own b hb
      · exact .inr (.inr f1)
      · exact .inr (.inr g1)
  refine ⟨r.ff, fun b u e => keep b u (r.fh _ _ e), fun b u hb ht e => keep b u (r.hh b u hb ht e), fun b hb => keepN b (r.al b hb), r.new, ?_, ?_, by show (ad ++ [p]).length = (s.cs ++ [_]).length; simp [hlen], fun i b c h1 h2 => ?_, r.sln, fun k x hx => ?_, inn⟩
  · obtain ⟨ad', e, h1⟩ := r.pre
    refine ⟨ad' ++ [p], by rw [e]; simp, fun b hb => ?_⟩
    rcases List.mem_append.mp hb with hb | hb
    · exact h1 b hb
    · rw [List.mem_singleton] at hb; subst hb; exact f1
  · rw [List.nodup_append]
    exact ⟨r.nd, List.nodup_cons.mpr ⟨(fun z => nomatch z), List.nodup_nil⟩, fun b hb q hq e => by
      rw [List.mem_singleton] at hq; subst hq; subst e; exact f3 hb⟩
  · by_cases hi : i < ad.length
    · rw [List.getElem?_append_left hi] at h1
      have h2 : (s.cs ++ [Cell.tr (.nd (.obj C dx []) p [])])[i]? = some c := h2
      rw [List.getElem?_append_left (by omega)] at h2
      obtain ⟨n0, l, ok⟩ := r.cel i b c h1 h2
      exact ⟨keepN b n0, l, ok.mono ⟨[p], rfl⟩ (Same.refl _) (fun o' e => keep b o' e) fun b' hb' o ho => keep b' o ho⟩
    · have hi2 : i = ad.length := by
        have := (List.getElem?_eq_some_iff.mp h1).1
        simp at this; omega
      subst hi2
      rw [List.getElem?_append_right (Nat.le_refl _)] at h1
      have h2 : (s.cs ++ [Cell.tr (.nd (.obj C dx []) p [])])[ad.length]? = some c := h2
      rw [List.getElem?_append_right (by omega)] at h2
      have e1 : p = b := by simpa using h1
      have e2 : Cell.tr (.nd (.obj C dx []) p []) = c := by simpa [hlen] using h2
      subst e1; subst e2
      exact ⟨ne_none upd_same, (fun z => nomatch z), rfl, TrOk.of (vs := []) upd_same ⟨upd', rfl⟩ (show TrAll F _ [] [] from rfl)⟩
  · obtain ⟨v, h1, h2⟩ := r.slt k x hx
    exact ⟨v, h1, h2.mono ⟨[p], rfl⟩ (Same.refl _)⟩
end
/-! ### fields -/
def lookF (f : Str) : List Str → Option Nat
  | [] => none
  | g :: fs => if g = f then some 0 else (lookF f fs).map (· + 1)
def objN : Option (Nat × List Nat × Kd × Addr × List Tr) → Option (Nat × List Nat × Addr × Addr × List Str × Addr × List Tr)
  | some (n, pt, .obj C dx fs, q, ts) => some (n, pt, C, dx, fs, q, ts)
  | _ => none
def objAt (s : AS) (x : AVal) : Option (Nat × List Nat × Addr × Addr × List Str × Addr × List Tr) := objN (nodeAt s x)
section
variable {X : Cx} {B : Bs} {ad : List Addr} {F H : Hp} {s : AS} {σ : St} {x y : AVal} {u v : V} {o e value : Expr} {pos tpos apos : Pos} {ta tb tc : TEA} {f m : Str} {C dx q : Addr} {n : Nat} {pt : List Nat} {fs : List Str} {ts : List Tr} {es : List Expr} {tl : TLA} {t : SpT}
theorem objAt_ok (r : Rl B ad F H s σ) (h : VOk ad F x u) (e : objAt s x = some (n, pt, C, dx, fs, q, ts)) : ∃ t p vs, NodeAt ad F H s u n pt (.obj C dx fs) q ts t p vs := by
  unfold objAt at e
  cases hn : nodeAt s x with
  | none => rw [hn] at e; cases e
  | some N =>
    obtain ⟨n', pt', k, q', ts'⟩ := N
    rw [hn] at e
    cases k with
    | obj C' dx' fs' => cases e; exact nodeAt_ok r h hn
    | _ => cases e
theorem lookF_get : ∀ {fs : List Str} {vs : List V} {i : Nat} {w : V}, lookF f fs = some i → vs[i]? = some w → (fs.zip vs).lookup f = some w
  | [], vs, i, w, h, _ => by cases h
  | g :: fs, [], i, w, _, h => by simp at h
  | g :: fs, v :: vs, i, w, h, hw => by
    unfold lookF at h
    rw [List.zip_cons_cons, List.lookup_cons]
    split at h
    · rename_i e
      cases h
      have : v = w := by simpa using hw
      subst this
      rw [show (f == g) = true from beq_iff_eq.mpr e.symm]
    · rename_i e
      cases hl : lookF f fs with
      | none => rw [hl] at h; cases h
      | some j =>
        rw [hl] at h
        cases h
        rw [show (f == g) = false from beq_eq_false_iff_ne.mpr fun z => e z.symm]
        exact lookF_get hl (by simpa using hw)
theorem lookF_none : ∀ {fs : List Str} {vs : List V}, lookF f fs = none → (fs.zip vs).lookup f = none
  | [], vs, _ => by simp
  | g :: fs, [], _ => by simp
  | g :: fs, v :: vs, h => by
    unfold lookF at h
    rw [List.zip_cons_cons, List.lookup_cons]
    split at h
    · cases h
    · rename_i e
      rw [show (f == g) = false from beq_eq_false_iff_ne.mpr fun z => e z.symm]
      exact lookF_none (by
        cases hl : lookF f fs with
        | none => rfl
        | some j => rw [hl] at h; cases h)
theorem putF_new : ∀ {fs : List Str} {vs : List V} {w : V}, lookF f fs = none → fs.length = vs.length → putF f w (fs.zip vs) = (fs ++ [f]).zip (vs ++ [w])
  | [], [], w, _, _ => rfl
  | [], v :: vs, w, _, h => by cases h
  | g :: fs, [], w, _, h => by cases h
  | g :: fs, v :: vs, w, h, hl => by
    unfold lookF at h
    split at h
    · cases h
    · rename_i e
      show (if g = f then _ else (g, v) :: putF f w (fs.zip vs)) = _
      rw [if_neg e, putF_new (by
        cases hl : lookF f fs with
        | none => rfl
        | some j => rw [hl] at h; cases h) (by simpa using hl)]
      rfl
theorem putF_old : ∀ {fs : List Str} {vs : List V} {w : V} {i : Nat}, lookF f fs = some i → fs.length = vs.length → putF f w (fs.zip vs) = fs.zip (vs.set i w)
  | [], vs, w, i, h, _ => by cases h
  | g :: fs, [], w, i, _, h => by cases h
  | g :: fs, v :: vs, w, i, h, hl => by
    unfold lookF at h
    split at h
    · rename_i e
      cases h
      show (if g = f then (g, w) :: fs.zip vs else _) = _
      rw [if_pos e]; rfl
    · rename_i e
      cases hk : lookF f fs with
      | none => rw [hk] at h; cases h
      | some j =>
        rw [hk] at h
        cases h
        show (if g = f then _ else (g, v) :: putF f w (fs.zip vs)) = _
        rw [if_neg e, putF_old hk (by simpa using hl)]
        rfl
theorem lookF_lt : ∀ {fs : List Str} {i : Nat}, lookF f fs = some i → i < fs.length
  | [], i, h => by cases h
  | g :: fs, i, h => by
    unfold lookF at h
    split at h
    · cases h; simp
    · cases hk : lookF f fs with
      | none => rw [hk] at h; cases h
      | some j => rw [hk] at h; cases h; have := lookF_lt hk; simp; omega
/-- o.f -/
def attrA (C : Addr) (f : Str) (ta : TEA) : TEA := fun s Q => ta s fun x s1 => onSome (objAt s1 x) fun N => N.2.2.1 = C ∧ onSome (lookF f N.2.2.2.2.1) fun i => onSome (kids N.1 N.2.1 N.2.2.2.2.2.2)[i]? fun z => Q z s1
theorem ea_attr (c : Cls X.K C) (na : NoAttr X.K C f) (ha : EA X B o ta) (hb : attributeBase o f X.env (eval o X.env) = eval o X.env := by rfl) : EA X B (.Attribute o f pos) (attrA C f ta) := ⟨fun ad F H s σ Q r t =>
  we_of (pe_fld pe_we hb) ((ha.run ad F H s σ _ r t).imp fun u H1 q => by
    obtain ⟨ad1, F1, x, s1, e1, k1, r1, hx, ⟨n, pt, C', dx, fs, q0, ts⟩, hn, hC, i, hi, z, hz, q⟩ := q
    have hC : C' = C := hC
    subst hC
    obtain ⟨t0, p, vs, N⟩ := objAt_ok r1 hx hn
    obtain ⟨w, hw, hzw⟩ := Paired.get (kids_ok (ad := ad1) (n := n) (pt := pt) N.kids) hz
    exact ⟨q0, C', dx, _, w, N.val, N.ho, c, na, lookF_get hi hw, ad1, F1, z, s1, e1, k1, r1, hzw, q⟩)⟩
/-- o.f = e -/
def setO (g : Nat → Addr) (s : AS) (y : AVal) (cs : List Cell) (f : Str) (n : Nat) (pt : List Nat) (C dx : Addr) (fs : List Str) (q : Addr) (ts : List Tr) (t u : Tr) : Option Nat → AS
  | none => ⟨mvS g cs n (ts.length :: pt) y s.sl, cs.set n (.tr (t.put pt (.nd (.obj C dx (fs ++ [f])) q (ts ++ [u]))))⟩
  | some i => ⟨mvS g cs n (i :: pt) y s.sl, cs.set n (.tr (t.put pt (.nd (.obj C dx fs) q (ts.set i u))))⟩
def setFA (C : Addr) (f : Str) (tv ta : TEA) : TSA := fun D s => tv s fun y s1 => ta s1 fun x s2 => ∀ g : Nat → Addr, onSome (grab g s2.cs y) fun r => onSome (objAt ⟨s2.sl, r.2⟩ x) fun N => N.2.2.1 = C ∧ N.2.2.2.2.1.length < 1000 ∧ onSome (treeAt r.2 N.1) fun t => D.nx (setO g s2 y r.2 f N.1 N.2.1 C N.2.2.2.1 N.2.2.2.2.1 N.2.2.2.2.2.1 N.2.2.2.2.2.2 t r.1 (lookF f N.2.2.2.2.1))
theorem TrAll.snoc1 {F H : Hp} {ts : List Tr} {vs : List V} {u : Tr} {w : V} (h : TrAll F H ts vs) (hu : TrOk F H u w) : TrAll F H (ts ++ [u]) (vs ++ [w]) := h.append (us := [u]) (ws := [w]) (show ∃ v r, [w] = v :: r ∧ TrOk F H u v ∧ TrAll F H [] r from ⟨w, [], rfl, hu, rfl⟩)
theorem TrAll.setT {F H : Hp} {u : Tr} {w : V} (hu : TrOk F H u w) : ∀ {ts : List Tr} {vs : List V} (j : Nat), TrAll F H ts vs → TrAll F H (ts.set j u) (vs.set j w)
  | [], _, j, h => by obtain rfl := (show _ = [] from h); exact rfl
  | t :: ts, vs, j, h => by
    obtain ⟨v0, r, rfl, h1, h2⟩ := (show ∃ v r, vs = v :: r ∧ TrOk F H t v ∧ TrAll F H ts r from h)
    cases j with
    | zero => exact ⟨w, r, rfl, hu, h2⟩
    | succ j => exact ⟨v0, r.set j w, rfl, h1, TrAll.setT hu j h2⟩
theorem sa_setF (c : Cls X.K C) (na : NoAttr X.K C f) (hv : EA X B value tc) (ha : EA X B o ta) (hs : swapsWith value (some (.Attribute o f apos)) pos.line X.env = pure false := by rfl) : SA X B (.Assign [.Attribute o f apos] value pos) (setFA C f tc ta) := ⟨fun D s h ad F H σ r =>
  ws_of (ps_fld pe_we pe_we hs) ((hv.run ad F H s σ _ r h).imp fun w H1 q => by
    obtain ⟨ad1, F1, y, s1, e1, k1, r1, hy, q⟩ := q
    refine (ha.run ad1 F1 H1 s1 σ _ r1 q).imp fun u H2 q => ?_
    obtain ⟨ad2, F2, x, s2, e2, k2, r2, hx, q⟩ := q
    have hf := adF ad2
    obtain ⟨⟨tr, cs2⟩, hg, ⟨n, pt, C', dx, fs, q0, ts⟩, hn, hC, hl, t, ht, q⟩ := q (fun i => (ad2[i]?).getD 0)
    have hC : C' = C := hC
    subst hC
    obtain ⟨r3, L3, t3⟩ := grab_ok (sl := s2.sl) r2 (Loose.nil r2) hf (hy.mono e2 k2) hg
    rw [List.nil_append] at L3
    obtain ⟨t0, p, vs, N⟩ := objAt_ok r3 hx hn
    have htt : t0 = t := by
      have := treeAt_of N.cell
      rw [show treeAt cs2 n = some t from ht] at this
      exact (Option.some.inj this).symm
    subst htt
    have hval := N.val
    subst hval
    have hside : H2 dx = some (.own q0) ∧ fs.length = ts.length := N.side
    have hlv : fs.length = vs.length := hside.2.trans N.kids.length.symm
    have hlz : (fs.zip vs).length < 1000 := by rw [List.length_zip]; have : fs.length < 1000 := hl; omega
    refine ⟨q0, C', dx, fs.zip vs, rfl, N.ho, c, na, hlz, ?_⟩
    cases hlk : lookF f fs with
    | none =>
      have q : D.nx (setO _ s2 y cs2 f n pt C' dx fs q0 ts t0 tr (lookF f fs)) := q
      rw [hlk] at q
      have r4 := r3.mvS (ccs := cs2) (n := n) (pt := ts.length :: pt) hf y
      have N2 : NodeAt ad2 F2 H2 ⟨mvS (fun i => (ad2[i]?).getD 0) cs2 n (ts.length :: pt) y s2.sl, cs2⟩ (.ref q0) n pt (.obj C' dx fs) q0 ts t0 p vs := ⟨N.cell, N.root, N.here, rfl, N.ho, N.side, N.kids, N.tree⟩
      refine ⟨ad2, F2, _, ?_, q⟩
      rw [putF_new hlk hlv]
      exact r4.mutT (k' := .obj C' dx (fs ++ [f])) L3 N2 rfl (fun b => by rw [cntL_app]; exact Nat.le_refl _) (N.kids.snoc1 t3) ⟨hside.1, by simp [hside.2]⟩
    | some i =>
      have q : D.nx (setO _ s2 y cs2 f n pt C' dx fs q0 ts t0 tr (lookF f fs)) := q
      rw [hlk] at q
      have r4 := r3.mvS (ccs := cs2) (n := n) (pt := i :: pt) hf y
      have N2 : NodeAt ad2 F2 H2 ⟨mvS (fun i => (ad2[i]?).getD 0) cs2 n (i :: pt) y s2.sl, cs2⟩ (.ref q0) n pt (.obj C' dx fs) q0 ts t0 p vs := ⟨N.cell, N.root, N.here, rfl, N.ho, N.side, N.kids, N.tree⟩
      refine ⟨ad2, F2, _, ?_, q⟩
      rw [putF_old hlk hlv]
      have hil : i < ts.length := by have := lookF_lt hlk; omega
      refine r4.mutT (k' := .obj C' dx fs) L3 N2 rfl (fun b => ?_) (TrAll.setT t3 i N.kids) ⟨hside.1, by rw [List.length_set]; exact hside.2⟩
      have := cntL_set (u := tr) (List.getElem?_eq_getElem hil) b
      rw [cntL_cons, cntL_nil]
      omega)⟩
/-! ### objects made -/
def makeO (C : Addr) (t : SpT) (tl : TLA) : TEA := fun s Q => tl s fun xs s1 => ∀ p dx : Addr, callW t (.r s1.cs.length :: xs) ⟨s1.sl, s1.cs ++ [.tr (.nd (.obj C dx []) p [])]⟩ fun rv s2 => rv = .f .none ∧ Q (.r s1.cs.length) s2
theorem spA_imp {n : Nat} {t : SpT} {vs : List V} {H : Hp} {Q Q' : VK} {E : XK} (h : spA n t vs H Q E) (k : ∀ v H', Q v H' → Q' v H') : spA n t vs H Q' E := by
  obtain ⟨F, ad, cs, xs, P, h1, h2, h3, h4, h5⟩ := h
  exact ⟨F, ad, cs, xs, P, h1, h2, h3, h4, fun v H2 hp => k _ _ (h5 v H2 hp)⟩
variable {k : Nat} {fa : Addr} {fd : FuncData} {ps : List Str} {xn : Str} {p : Pos}
theorem make_post {ad : List Addr} {F H : Hp} {s : AS} {xs : List AVal} {vs : List V} {Q : VQ} {x dx : Addr} {nn : Nat} (hn : vs.length + 1 = nn) (r : Rl B ad F H s σ) (hv : Paired (VOk ad F) xs vs) (hx : H x = none) (hdx : H dx = none) (hne : dx ≠ x)
    (h : callW t (.r s.cs.length :: xs) ⟨s.sl, s.cs ++ [.tr (.nd (.obj C dx []) x [])]⟩ fun rv s2 => rv = .f .none ∧ Q (.r s.cs.length) s2) : spA nn t (.ref x :: vs) (upd (upd H dx (.own x)) x (.ins C dx [])) (fun v H2 => v = .non ∧ Post B ad F σ Q (.ref x) H2) E0 := by
  have r1 := r.newO (C := C) hx hdx hne
  have hself : (ad ++ [x])[s.cs.length]? = some x := by rw [← r.len]; simp
  refine call_post (by simpa using hn) r1 (.cons (show VOk (ad ++ [x]) F (.r s.cs.length) (.ref x) from ⟨x, hself, rfl⟩) (Paired.imp hv fun _ _ h => h.mono ⟨[x], rfl⟩ (Same.refl _))) h (fun F2 H2 y v s2 r2 k2 hd hp => ?_) (fun F2 H2 H3 c p o s2 r2 k2 hp e3 ok hl hP => nomatch hP.1) (fun F2 H2 t p s2 _ _ _ h => nomatch h.1) (fun F2 H2 k n p s2 _ _ _ _ h => nomatch h.1) (fun F2 H2 ex new ad' ys ws p s2 _ _ _ _ _ _ _ h => nomatch h.1)
  obtain ⟨hy, q⟩ := hp
  cases hy
  exact ⟨hd, ad ++ [x], F2, .r s.cs.length, s2, ⟨[x], rfl⟩, k2, r2, ⟨x, hself, rfl⟩, q⟩
theorem ea_make0 (M : Mk X.K C fa) (G : FnOk X.prog X.w X.K X.mg X.base CX0 k fa fd ps (spA 1 t)) (hr : Room (k + 1) X.A) (hm : X.mg xn = some (.ref C)) (hb : Binds X.K fd ps [])
    (hg : Gl X xn := by rfl) (hdb : (xn == ("__debug__" : Str)) = false := by decide) : EA X B (.Call (.Name xn p) [] [] pos) (makeO C t nilL) := ⟨fun ad F H s σ Q r h =>
  we_of (pe_make0 M G hr hg hm hb .nil pass0 hdb) fun x dx hx hdx hne => make_post (xs := []) (vs := []) rfl r .nil hx hdx hne (h x dx)⟩
/-! ### methods -/
def methF (C : Addr) (m : Str) (t : SpT) (ta : TEA) (tl : TLA) : TEA := fun s Q => ta s fun x s1 => onSome (objAt s1 x) fun N => N.2.2.1 = C ∧ lookF m N.2.2.2.2.1 = none ∧ tl s1 fun xs s2 => callW t (x :: xs) s2 (resF Q)
def methO (C : Addr) (m : Str) (t : SpT) (ta : TEA) (tl : TLA) : TEA := fun s Q => ta s fun x s1 => onSome (objAt s1 x) fun N => N.2.2.1 = C ∧ lookF m N.2.2.2.2.1 = none ∧ tl s1 fun xs s2 => callW t (x :: xs) s2 (resO (refsOf (x :: xs)) Q)
theorem fend {Q : VQ} {ad : List Addr} {F H : Hp} {s : AS} {xs : List AVal} {vs : List V} {nn : Nat} (hn : vs.length = nn) (r : Rl B ad F H s σ) (hv : Paired (VOk ad F) xs vs) (q : callW t xs s (resF Q)) : spA nn t vs H (Post B ad F σ Q) E0 :=
  call_post hn r hv q (fun F2 H2 y v s2 r2 k2 hd hp => ⟨ad, F2, .d y, s2, Ext.refl _, k2, r2, hd, hp⟩)
    (fun F2 H2 H3 c p o s2 r2 k2 hp e3 ok hl hP => PostN.frz (Q := Q) ⟨ad, F2, c, s2, p, H2, o, Ext.refl _, k2, r2, rfl, hp, e3, ok, hl, hP⟩) (fun F2 H2 t p s2 _ _ _ h => h.elim) (fun F2 H2 k n p s2 _ _ _ _ h => h.elim) (fun F2 H2 ex new ad' ys ws p s2 _ _ _ _ _ _ _ h => h.elim)
theorem obj_meth {pl : Sem Bool} (c : Cls X.K C) (hm : Meth X.K C m fa) (G : FnOk X.prog X.w X.K X.mg X.base CX0 k fa fd ps (spA n t)) (hr : Room k X.A) (hb : Binds X.K fd ps []) (ho : EA X B o ta) (ha : EL X B (e :: es) tl) (hn : (e :: es).length + 1 = n)
    (hst : starEach (e :: es) X.env = (false, eval e X.env) :: starEach es X.env) (hpl : (backTo pos (starEach es X.env)).any (·.1) = false)
    (ht : eval (.Call (.Attribute o m apos) (e :: es) [] pos) X.env = (do
      let ov ← eval o X.env
      standAt apos.atName
      let (f, first) ← holding [ov] (getMethod ov m pl)
      callWith pos f first (backTo pos (starEach (e :: es) X.env)) (backToKw pos (keywordEach [] X.env))))
    {ad : List Addr} {F H : Hp} {s : AS} {P : List AVal → AS → Prop} {K : VK} (r : Rl B ad F H s σ) (h : ta s fun x s1 => onSome (objAt s1 x) fun N => N.2.2.1 = C ∧ lookF m N.2.2.2.2.1 = none ∧ tl s1 fun xs s2 => P (x :: xs) s2)
    (fin : ∀ ad2 F2 H2 s2 xs vs, Ext ad ad2 → Same F F2 → Rl B ad2 F2 H2 s2 σ → Paired (VOk ad2 F2) xs vs → vs.length = n → P xs s2 → spA n t vs H2 K E0) : WE X (.Call (.Attribute o m apos) (e :: es) [] pos) σ H K :=
  we_of (pe_meth pe_we c hm G hr hb .nil pass0 pa_wa hst hpl ht) ((ho.run ad F H s σ _ r h).imp fun u H1 q => by
    obtain ⟨ad1, F1, x, s1, e1, k1, r1, hx, ⟨n0, pt, C', dx, fs, q0, ts⟩, hN, hC, hl, q⟩ := q
    have hC : C' = C := hC
    subst hC
    obtain ⟨t0, p, vs, N⟩ := objAt_ok r1 hx hN
    refine ⟨q0, dx, _, N.val, N.ho, lookF_none hl, (ha.run ad1 F1 H1 s1 σ _ r1 q).imp fun ws H2 q => ?_⟩
    obtain ⟨ad2, F2, xs, s2, e2, k2, r2, hv, hxl, q⟩ := q
    show spA n t (u :: (ws ++ [])) H2 _ E0
    rw [List.append_nil]
    exact fin ad2 F2 H2 s2 (x :: xs) (u :: ws) (e1.trans e2) (k1.trans k2) r2 (.cons (hx.mono e2 k2) hv) (by rw [List.length_cons, ← Paired.len hv, hxl]; exact hn) q)
theorem obj_meth0 {pl : Sem Bool} (c : Cls X.K C) (hm : Meth X.K C m fa) (G : FnOk X.prog X.w X.K X.mg X.base CX0 k fa fd ps (spA 1 t)) (hr : Room k X.A) (hb : Binds X.K fd ps []) (ho : EA X B o ta)
    (ht : eval (.Call (.Attribute o m apos) [] [] pos) X.env = (do
      let ov ← eval o X.env
      standAt apos.atName
      let (f, first) ← holding [ov] (getMethod ov m pl)
      callWith pos f first (backTo pos (starEach [] X.env)) (backToKw pos (keywordEach [] X.env))))
    {ad : List Addr} {F H : Hp} {s : AS} {P : List AVal → AS → Prop} {K : VK} (r : Rl B ad F H s σ) (h : ta s fun x s1 => onSome (objAt s1 x) fun N => N.2.2.1 = C ∧ lookF m N.2.2.2.2.1 = none ∧ P [x] s1)
    (fin : ∀ ad2 F2 H2 s2 xs vs, Ext ad ad2 → Same F F2 → Rl B ad2 F2 H2 s2 σ → Paired (VOk ad2 F2) xs vs → vs.length = 1 → P xs s2 → spA 1 t vs H2 K E0) : WE X (.Call (.Attribute o m apos) [] [] pos) σ H K :=
  we_of (pe_meth0 pe_we c hm G hr hb .nil pass0 ht) ((ho.run ad F H s σ _ r h).imp fun u H1 q => by
    obtain ⟨ad1, F1, x, s1, e1, k1, r1, hx, ⟨n0, pt, C', dx, fs, q0, ts⟩, hN, hC, hl, q⟩ := q
    have hC : C' = C := hC
    subst hC
    obtain ⟨t0, p, vs, N⟩ := objAt_ok r1 hx hN
    exact ⟨q0, dx, _, N.val, N.ho, lookF_none hl, fin ad1 F1 H1 s1 [x] [u] e1 k1 r1 (.cons hx .nil) rfl q⟩)
theorem ea_methF {pl : Sem Bool} (c : Cls X.K C) (hm : Meth X.K C m fa) (G : FnOk X.prog X.w X.K X.mg X.base CX0 k fa fd ps (spA n t)) (hr : Room k X.A) (hb : Binds X.K fd ps []) (ho : EA X B o ta) (ha : EL X B (e :: es) tl) (hn : (e :: es).length + 1 = n := by rfl)
    (hst : starEach (e :: es) X.env = (false, eval e X.env) :: starEach es X.env := by rfl) (hpl : (backTo pos (starEach es X.env)).any (·.1) = false := by rfl)
    (ht : eval (.Call (.Attribute o m apos) (e :: es) [] pos) X.env = (do
      let ov ← eval o X.env
      standAt apos.atName
      let (f, first) ← holding [ov] (getMethod ov m pl)
      callWith pos f first (backTo pos (starEach (e :: es) X.env)) (backToKw pos (keywordEach [] X.env))) := by rfl) : EA X B (.Call (.Attribute o m apos) (e :: es) [] pos) (methF C m t ta tl) := ⟨fun ad F H s σ Q r h =>
  obj_meth c hm G hr hb ho ha hn hst hpl ht (P := fun xs s2 => callW t xs s2 (resF Q)) r h fun ad2 F2 H2 s2 xs vs e2 k2 r2 hv hl q => spA_imp (fend hl r2 hv q) fun v H3 hp => hp.up e2 k2⟩
theorem ea_methF0 {pl : Sem Bool} (c : Cls X.K C) (hm : Meth X.K C m fa) (G : FnOk X.prog X.w X.K X.mg X.base CX0 k fa fd ps (spA 1 t)) (hr : Room k X.A) (hb : Binds X.K fd ps []) (ho : EA X B o ta)
    (ht : eval (.Call (.Attribute o m apos) [] [] pos) X.env = (do
      let ov ← eval o X.env
      standAt apos.atName
      let (f, first) ← holding [ov] (getMethod ov m pl)
      callWith pos f first (backTo pos (starEach [] X.env)) (backToKw pos (keywordEach [] X.env))) := by rfl) : EA X B (.Call (.Attribute o m apos) [] [] pos) (methF C m t ta nilL) := ⟨fun ad F H s σ Q r h =>
  obj_meth0 c hm G hr hb ho ht (P := fun xs s2 => callW t xs s2 (resF Q)) r h fun ad2 F2 H2 s2 xs vs e2 k2 r2 hv hl q => spA_imp (fend hl r2 hv q) fun v H3 hp => hp.up e2 k2⟩
end
end Kr
/-! layer A40 -/
namespace Kr
open PySem L2
/-! ## dicts that hang in trees -/
def dcN : Option (Nat × List Nat × Kd × Addr × List Tr) → Option (Nat × List Nat × List Key × Addr × List PyData)
  | some (n, pt, .dct ks, q, ts) => (leafs ts).map fun ds => (n, pt, ks, q, ds)
  | _ => none
def dcAt (s : AS) (x : AVal) : Option (Nat × List Nat × List Key × Addr × List PyData) := dcN (nodeAt s x)
/-- a dict of data, as a node -/
def dctK (q : Addr) (kvs : List (Key × PyData)) : Tr := .nd (.dct (kvs.map (·.1))) q (kvs.map fun p => .d p.2)
section
variable {X : Cx} {B : Bs} {ad : List Addr} {F H : Hp} {s : AS} {σ : St} {x y : AVal} {u v : V} {o e value a b : Expr} {pos tpos apos cpos py p p1 spos : Pos} {ta tb tc : TEA} {f m : Str} {C dx q : Addr} {n : Nat} {pt : List Nat} {fs : List Str} {ts : List Tr} {es : List Expr} {tl : TLA} {t : TSA}
/-- d[k] = v -/
def putN (tv to ti : TEA) : TSA := fun D s => tv s fun v s1 => to s1 fun x s2 => ti s2 fun y s3 => onSome (dcAt s3 x) fun N => onSome y.key? fun k => onSome v.data? fun d => onSome (treeAt s3.cs N.1) fun t => N.2.2.2.2.length < sizeLine ∧ D.nx ⟨s3.sl, s3.cs.set N.1 (.tr (t.put N.2.1 (dctK N.2.2.2.1 (putA (N.2.2.1.zip N.2.2.2.2) k d))))⟩
/-! ### ints -/
def bitsA (to : TEA) : TEA := fun s Q => to s fun x s1 => onSome x.int? fun i => Q (.d (.int (Builtin.Int.intBits i : Nat))) s1
/-- name op= e, of ints -/
def augN (g : Int → Int → Int) (k : Nat) (te : TEA) : TSA := fun D s => onSome (s.sl[k]?.bind id) fun x => onSome x.int? fun i => te s fun y s1 => onSome y.int? fun j => D.nx ⟨s1.sl.set k (some (.d (.int (g i j)))), s1.cs⟩
/-! ### {k: v} -/
def dispA (tk tv : TEA) : TEA := fun s Q => tk ⟨s.sl, s.cs ++ [.dK []]⟩ fun x s1 => tv s1 fun y s2 => onSome x.key? fun k => onSome y.data? fun d => s2.cs[s.cs.length]? = some (.dK []) ∧ Q (.r s.cs.length) ⟨s2.sl, s2.cs.set s.cs.length (.dK [(k, d)])⟩
/-! ### dicts told for good are walked where they stand -/
/-- nothing but dicts may be otherwise -/
def Agr (H H' : Hp) : Prop := ∀ q u, H q = some u → (∀ es, ¬ IsDk es u) → H' q = some u
theorem Agr.refl (H : Hp) : Agr H H := fun _ _ h _ => h
def pkV (k : Nat) (s : AS) : Option PyData := (s.sl[k]?.bind id).bind AVal.data?
def pkI (pa pb : AS → Option PyData) (s : AS) : Option PyData := match pa s, pb s with
  | some (.list ds), some (.int i) => L2.atI ds i
  | _, _ => none
def pkF (C : Addr) (f : Str) (k : Nat) (s : AS) : Option PyData := (s.sl[k]?.bind id).bind fun x => (objAt s x).bind fun N => if N.2.2.1 = C then (lookF f N.2.2.2.2.1).bind fun i => (kids N.1 N.2.1 N.2.2.2.2.2.2)[i]?.bind AVal.data? else none
/-- what the walk over it tells -/
def iterP (pk : AS → Option PyData) : TIO := fun s Q => onSome (pk s) fun d => onSome (keysOf d) fun ds => Q ds (fun _ => True) s
variable {elt tg c : Expr} {scope : Scope} {yn : Str} {g : TGA} {tt : TTA} {te : TEA} {ks : List Nat} {pk : AS → Option PyData} {body : List Stmt}
/-- for x in e -/
def forPA (m : Nat) (pk : AS → Option PyData) (g : TGA) (t : TSA) : TSA := fun D s => onSome (pk s) fun d => onSome (keysOf d) fun ds => forW m (okG (fun _ => True) g) t D ds s
end
end Kr
/-! layer A41 -/
namespace Kr
open PySem L2
/-- the program's own classes -/
structure OT where
  opened : Addr
  desk : Addr
/-! ### {k: v}, k a tuple -/
section
open PySem.Spec PyProof.Rows
variable {X : Cx} {B : Bs} {σ : L2.St} {a b c : Expr} {pos p2 : Pos} {ta tb tc : TEA} {ka kb : TE}
def dispTT (tk tv : TEA) : TEA := fun s Q => ∀ f : Nat → Addr, tk ⟨s.sl, s.cs ++ [.tr (.nd (.dctT []) (f s.cs.length) [])]⟩ fun x s1 => tv s1 fun y s2 => onSome (keyTd x) fun k => onSome y.data? fun d => s2.cs[s.cs.length]? = some (.tr (.nd (.dctT []) (f s.cs.length) [])) ∧ Q (.r s.cs.length) ⟨s2.sl, s2.cs.set s.cs.length (.tr (.nd (.dctT [k]) (f s.cs.length) [.d d]))⟩
/-- x[i:j] -/
def slLH (ta tb tc : TEA) : TEA := fun s Q => ta s fun x s1 => tb s1 fun y s2 => onSome y.int? fun i => tc s2 fun z s3 => onSome z.int? fun j => slA (some i) (some j) x s3 Q
end
/-! ### for the simp set -/
section
variable {n : Nat} {pt : List Nat} {C dx q : Addr} {fs : List Str} {ts : List Tr} {ks : List Key} {s : AS} {x : AVal}
theorem objN_o : objN (some (n, pt, .obj C dx fs, q, ts)) = some (n, pt, C, dx, fs, q, ts) := rfl
theorem kidsAt {i : Nat} : (kids n pt ts)[i]? = (ts[i]?).map (valT n (i :: pt)) := by unfold kids; rw [List.getElem?_mapIdx]
theorem valT_d {d : PyData} : valT n pt (.d d) = .d d := rfl
theorem valT_nd {k : Kd} {a : Addr} : valT n pt (.nd k a ts) = .a a n pt := rfl
theorem valT_k {kvs : List (Key × PyData)} : valT n pt (dctK q kvs) = .a q n pt := rfl
theorem setO_none {g : Nat → Addr} {y : AVal} {cs : List Cell} {f : Str} {t u : Tr} : setO g s y cs f n pt C dx fs q ts t u none = ⟨mvS g cs n (ts.length :: pt) y s.sl, cs.set n (.tr (t.put pt (.nd (.obj C dx (fs ++ [f])) q (ts ++ [u]))))⟩ := rfl
theorem setO_some {g : Nat → Addr} {y : AVal} {cs : List Cell} {f : Str} {t u : Tr} {i : Nat} : setO g s y cs f n pt C dx fs q ts t u (some i) = ⟨mvS g cs n (i :: pt) y s.sl, cs.set n (.tr (t.put pt (.nd (.obj C dx fs) q (ts.set i u))))⟩ := rfl
theorem kids_leafs (ds : List PyData) : kids n pt (ds.map .d) = ds.map .d := by
  unfold kids
  apply List.ext_getElem?
  intro i
  rw [List.getElem?_mapIdx, List.getElem?_map, List.getElem?_map]
  cases ds[i]? <;> rfl
theorem zip_kv (kvs : List (Key × PyData)) : (kvs.map (·.1)).zip (kvs.map (·.2)) = kvs := by
  induction kvs with
  | nil => rfl
  | cons p r ih => simp only [List.map_cons, List.zip_cons_cons, ih]
theorem zip_kids (kvs : List (Key × PyData)) : (kvs.map (·.1)).zip (kids n pt (kvs.map fun p => Tr.d p.2)) = dkv kvs := by
  have e : (kvs.map fun p => Tr.d p.2) = (kvs.map (·.2)).map .d := by rw [List.map_map]; rfl
  rw [e, kids_leafs]
  unfold dkv
  clear e
  induction kvs with
  | nil => rfl
  | cons p r ih => simp only [List.map_cons, List.zip_cons_cons]; rw [ih]
theorem viewT_k (kvs : List (Key × PyData)) : viewT n pt (.dct (kvs.map (·.1))) (kvs.map fun p => .d p.2) = .dct (dkv kvs) := by
  show View.dct ((kvs.map (·.1)).zip (kids n pt (kvs.map fun p => Tr.d p.2))) = _
  have e : (kvs.map fun p => Tr.d p.2) = (kvs.map (·.2)).map .d := by rw [List.map_map]; rfl
  rw [e, kids_leafs]
  congr 1
  unfold dkv
  induction kvs with
  | nil => rfl
  | cons p r ih => simp only [List.map_cons, List.zip_cons_cons]; rw [ih (by rw [List.map_map]; rfl)]
theorem dcN_k (kvs : List (Key × PyData)) : dcN (some (n, pt, .dct (kvs.map (·.1)), q, kvs.map fun p => .d p.2)) = some (n, pt, kvs.map (·.1), q, kvs.map (·.2)) := by
  have e : (kvs.map fun p => Tr.d p.2) = (kvs.map (·.2)).map .d := by rw [List.map_map]; rfl
  show (leafs (kvs.map fun p => Tr.d p.2)).map _ = _
  rw [e, leafs_map]; rfl
end
end Kr
/-! layer A42 -/
/-! layer A43 -/
namespace Kr
open PySem L2
/-! ### text.strip(signs) -/
section
open PySem.Spec PyProof.Rows
variable {X : Cx} {B : Bs} {σ : L2.St} {o e : Expr} {to te : TE} {ta tb : TEA} {apos pos : Pos}
def stripCA (to te : TEA) : TEA := fun s Q => to s fun x s1 => onSome x.str? fun z => te s1 fun y s2 => onSome y.str? fun w => z.length ≤ sizeLine ∧ Q (.d (.str (Txt.stripChars z w))) s2
end
/-! ### dict(enumerate(xs)) -/
def enumK (n : Nat) : List Key := (List.range n).map fun i : Nat => (.inl (i : Int) : Key)
section
variable {X : Cx} {B : Bs} {e : Expr} {p p2 pos pos2 : Pos} {tl : TLA}
def dictEnumN (tl : TLA) : TNA := fun s Q => tl s fun xs s1 => one (fun x => onSome (listOf s1 x) fun es => Q (.dK (mergeA [] ((enumK es.length).zip es))) s1) xs
end
/-! ### text * int, any short text -/
section
variable {X : Cx} {B : Bs}
def mulSA : AVal → AVal → TEA := fun x y s Q => match x with
  | .d (.str z) => onSome y.int? fun n => (0 ≤ n ∧ n ≤ 1000 ∧ z.length ≤ 1000) ∧ Q (.d (.str (Txt.mul z n))) s
  | x => mulX x y s Q
theorem mulSA_str {z : Str} {y : AVal} {s : AS} {Q : VQ} : mulSA (.d (.str z)) y s Q = onSome y.int? fun n => (0 ≤ n ∧ n ≤ 1000 ∧ z.length ≤ 1000) ∧ Q (.d (.str (Txt.mul z n))) s := rfl
theorem mulSA_list {ds : List PyData} {y : AVal} {s : AS} {Q : VQ} : mulSA (.d (.list ds)) y s Q = mulX (.d (.list ds)) y s Q := rfl
end
end Kr
/-! layer A44 -/
namespace Kr
open PySem L2
/-! ### draws by numbers of any size -/
/-! ### for over a text -/
section
variable {X : Cx} {B : Bs} {tg e : Expr} {ta : TEA}
def iterTx (ta : TEA) : AS → (List PyData → AS → Prop) → Prop := fun s Q => ta s fun x s1 => onSome x.str? fun z => z.length ≤ sizeLine ∧ Q (signsD z) s1
theorem ia_str (ha : EA X B e ta) : IA X B tg e (iterTx ta) := ⟨fun ad F H s σ Q R r t k => wi_of (pi_str pe_we) ((ha.run ad F H s σ _ r t).imp fun u H1 q => by
  obtain ⟨ad1, F1, x, s1, e1, k1, r1, hx, z, ed, hz, q⟩ := q
  have := AVal.str?_of ed
  subst this
  obtain rfl : u = .str z := hx
  have hl : (signsD z).length = z.cps.size := by simp [signsD]
  refine ⟨z, rfl, k _ ad1 F1 H1 s1 _ e1 k1 r1 (Walks0.w fun F3 H3 s1 s2 => ⟨fun i d e => ?_, ?_⟩) (by rw [hl]; exact hz) q⟩
  · have hi : i < z.cps.size := by
      have := (List.getElem?_eq_some_iff.mp e).1
      omega
    refine ⟨hi, fun x H4 y => ?_⟩
    obtain ⟨rfl, c, hc, rfl⟩ := y
    refine ⟨rfl, ?_⟩
    unfold signsD at e
    rw [List.getElem?_map, Array.getElem?_toList, hc] at e
    cases e
    rfl
  · show z.cps.size ≤ (signsD z).length
    omega)⟩
end
end Kr
/-! layer A50 -/
namespace L2
open PySem PySem.Spec PyProof.Rows
/-! ### sorted(d, key=len, reverse=True) of a dict keyed by tuples -/
end L2
namespace Kr
open PySem L2
/-! ## dicts keyed by tuples: their keys in order -/
def keyTD (k : List Key) : PyData := .tuple (k.map keyD)
def Kd.noTup : Kd → Bool
  | .tup => false
  | _ => true
mutual
def Tr.noTup : Tr → Bool
  | .d _ => true
  | .nd k _ xs => k.noTup && Tr.noTupL xs
def Tr.noTupL : List Tr → Bool
  | [] => true
  | t :: ts => t.noTup && Tr.noTupL ts
end
def Cell.noTup : Cell → Bool
  | .nt _ => false
  | .tr t => t.noTup
  | _ => true
section
variable {X : Cx} {B : Bs} {ad : List Addr} {F H : Hp} {s : AS} {σ : St} {x y : AVal} {u v : V} {o e a b value : Expr} {pos tpos p p2 p3 q q2 : Pos} {ta tb tc : TEA} {n : Nat}
theorem COk.noTup {p : Addr} {c : Cell} (h : COk ad F H p c) (hl : c.live = true) (hn : c.noTup = true) : ∀ vs, H p ≠ some (.tup vs) := by
  intro vs
  cases c with
  | lst ds => obtain ⟨ws, h1, _⟩ := h; rw [h1]; exact fun z => nomatch z
  | dK kvs => obtain ⟨ws, h1, _⟩ := h; rw [h1]; exact fun z => nomatch z
  | pool n =>
    obtain ⟨_, _, _, h1, _⟩ := h
    rw [h1]; exact fun z => nomatch z
  | fz x => cases hl
  | gone => cases hl
  | nl xs => obtain ⟨ws, h1, _⟩ := h; rw [h1]; exact fun z => nomatch z
  | nt xs => cases hn
  | nd kvs => obtain ⟨ws, h1, _⟩ := h; rw [h1]; exact fun z => nomatch z
  | dl od es kvs => rw [h.1]; exact fun z => nomatch z
  | tr t => cases hl
def lenK (x : List Key) : PyData := .int (x.length : Int)
/-- sorted(d, key=len, reverse=True) -/
def sortLRN (ta : TEA) : TNA := fun s Q => ta s fun x s1 => onSome (dtAt s1 x) fun N => s1.cs.all Cell.noTup = true ∧ Q (.lst ((N.2.2.1.mergeSort (PySem.W.dataLe true lenK)).map keyTD)) s1
end
end Kr
/-! layer A51 -/
namespace Kr
open PySem L2
/-! ## dicts keyed by tuples: what stands at a key, values of our own -/
def getZ {κ β : Type} [DecidableEq κ] (l : List (κ × β)) (k : κ) : Option β := (l.find? fun p => decide (p.1 = k)).map (·.2)
section
variable {X : Cx} {B : Bs} {ad : List Addr} {F H : Hp} {s : AS} {σ : St} {x y : AVal} {u v : V} {o e a b value : Expr} {pos tpos p p2 p3 q q2 : Pos} {ta tb tc : TEA} {n : Nat}
def getTT (ta tb : TEA) : TEA := fun s Q => ta s fun x s1 => tb s1 fun y s2 => onSome (dtAt s2 x) fun N => onSome (keyTd y) fun k => onSome (getZ (N.2.2.1.zip (kids N.1 N.2.1 N.2.2.2.2)) k) fun z => Q z s2
/-- d[k] = v, k not yet there, v a cell of our own that goes into the tree -/
def putTO (tv to ti : TEA) : TSA := fun D s => tv s fun v s1 => to s1 fun x s2 => ti s2 fun y s3 => ∀ f : Nat → Addr, onSome (grab f s3.cs v) fun g => onSome (dtAt ⟨s3.sl, g.2⟩ x) fun N => onSome (keyTd y) fun k => onSome (treeAt g.2 N.1) fun t => (memT k N.2.2.1 = false ∧ N.2.2.2.2.length < sizeLine) ∧ D.nx ⟨mvS f g.2 N.1 (N.2.2.2.2.length :: N.2.1) v s3.sl, g.2.set N.1 (.tr (t.put N.2.1 (.nd (.dctT (N.2.2.1 ++ [k])) N.2.2.2.1 (N.2.2.2.2 ++ [g.1]))))⟩
/-- {k: v} with a value of our own -/
def dispTO (tk tv : TEA) : TEA := fun s Q => ∀ f : Nat → Addr, tk ⟨s.sl, s.cs ++ [.tr (.nd (.dctT []) (f s.cs.length) [])]⟩ fun x s1 => tv s1 fun y s2 => onSome (keyTd x) fun k => ∀ f2 : Nat → Addr, onSome (grab f2 s2.cs y) fun g => g.2[s.cs.length]? = some (.tr (.nd (.dctT []) (f s.cs.length) [])) ∧ Q (.r s.cs.length) ⟨mvS f2 g.2 s.cs.length [0] y s2.sl, g.2.set s.cs.length (.tr (.nd (.dctT [k]) (f s.cs.length) [g.1]))⟩
end
end Kr
namespace Kr
open PySem L2
/-! ## defs that tell a tree of bare things: what they froze is forgotten -/
def bareI : PyData → Bool
  | .int _ => true
  | .str _ => true
  | .bool _ => true
  | .none => true
  | _ => false
mutual
def Tr.imm : Tr → Bool
  | .d x => bareI x
  | .nd _ _ xs => Tr.immL xs
def Tr.immL : List Tr → Bool
  | [] => true
  | t :: ts => t.imm && Tr.immL ts
end
def AVal.isD : AVal → Bool
  | .d _ => true
  | _ => false
def retI (P : RV → List Cell → Prop) (x : AVal) (s : AS) : Prop := match x with
  | .r n => onSome s.cs[n]? fun c => match c with
    | .tr t => t.imm = true ∧ P (.t t) []
    | _ => False
  | _ => False
def bodyTI (k : Nat) (t : Nat → TSA) : SpT := fun xs cs P => (cs = [] ∧ xs.all AVal.isD = true) ∧ t 0 ⟨retI P (.d .none), retI P, fun _ => False, fun _ => False⟩ ⟨xs.map some ++ List.replicate k none, []⟩
end Kr
/-! layer A52 -/
namespace L2
open PySem PySem.Spec PyProof.Rows
/-! ### sorted of a tuple of ints -/
end L2
namespace Kr
open PySem L2
section
variable {X : Cx} {B : Bs} {ad : List Addr} {F H : Hp} {s : AS} {σ : St} {x y : AVal} {u v : V}
/-- x in t of a tuple told -/
def inTup (neg : Bool) (x y : AVal) : TTA := fun s Q => onSome (tupD y) fun ds => onSome x.data? fun d => (flatD d = true ∧ ds.all flatD = true) ∧ Q (inD d ds != neg) s
/-- sorted(t) of a tuple of ints -/
def sortedTN (xs : List AVal) : TNA := fun s Q => one (fun x => onSome (tupD x) fun ds => onSome (ints? ds) fun ns => ns.length < 64 ∧ Q (.lst ((srtI ns).map .int)) s) xs
end
theorem sortedTN_1 {x : AVal} {s : AS} {Q : Cell → AS → Prop} : sortedTN [x] s Q = onSome (tupD x) fun ds => onSome (ints? ds) fun ns => ns.length < 64 ∧ Q (.lst ((srtI ns).map .int)) s := rfl
end Kr
/-! layer A53 -/
/-! layer A54 -/
/-! layer A55 -/
namespace Kr
open PySem L2
/-! ## sorted of a list of trees: the same trees in a new list -/
section
variable {X : Cx} {B : Bs} {ad : List Addr} {F H : Hp} {s : AS} {σ : St} {x y : AVal} {u v : V} {cs : List Cell} {ls ls2 ts : List Tr}
theorem Loose.sub (L : Loose B ad F H cs ls) (h : ∀ q, (Tr.addrsL ls2).count q ≤ (Tr.addrsL ls).count q) : Loose B ad F H cs ls2 := by
  have hm : ∀ q ∈ Tr.addrsL ls2, q ∈ Tr.addrsL ls := fun q hq => List.count_pos_iff.mp (Nat.lt_of_lt_of_le (List.count_pos_iff.mpr hq) (h q))
  exact ⟨fun q => by have h1 := h q; have h2 := L.cnt q; omega, fun q hq => L.off q (hm q hq), fun q hq => L.fr q (hm q hq), fun q hq => L.own q (hm q hq)⟩
end
/-! ## str of an int, of a text -/
def strA (xs : List AVal) : TEA := fun s Q => one (fun x => match x with
  | .d (.int i) => i.natAbs.log2 < 1920 ∧ Q (.d (.str (toString i))) s
  | .d (.str z) => Q (.d (.str z)) s
  | _ => False) xs
theorem c_str {X : Cx} {B : Bs} : CalA X B (.type "str") strA := fun ad F H s σ xs us Q r hp t => by
  obtain ⟨x, u, rfl, rfl, hx, t⟩ := one_ok t hp
  cases x with
  | r n => exact t.elim
  | s _ _ => exact t.elim
  | a _ _ _ => exact t.elim
  | d y =>
    cases y with
    | int i =>
      obtain rfl : u = .int i := hx
      exact ⟨_, call_str_int, i, rfl, t.1, .here (x := .d (.str (toString i))) r rfl t.2⟩
    | str z =>
      obtain rfl : u = .str z := hx
      exact ⟨_, SkE.call_str_str, z, rfl, .here (x := .d (.str z)) r rfl t⟩
    | _ => exact t.elim
end Kr
/-! layer A56 -/
namespace Kr
open PySem L2
/-! ## an expression that reads our own things as they stand, and tells a new tree of bare things -/
def Kd.noObj : Kd → Bool
  | .obj _ _ _ => false
  | _ => true
mutual
def Tr.bare : Tr → Bool
  | .d x => bareD x
  | .nd k _ ts => k.noObj && Tr.bares ts
def Tr.bares : List Tr → Bool
  | [] => true
  | t :: ts => t.bare && Tr.bares ts
end
end Kr
/-! layer A57 -/
/-! layer A58 -/
/-! layer A59 -/
/-! layer A60 -/
/-! layer A61 -/
/-! layer A62 -/
/-! layer A64 -/
/-! methods from which an error may come -/
namespace L2
open PySem PySem.Spec PyProof.Rows
def tMethX (C : Addr) (m : Str) (sp : Sp) (E : St → XK) (ta : TE) (t : TA) : TE := fun σ H Q => ta σ H fun x H1 => ∃ a dx fs, x = .ref a ∧ H1 a = some (.ins C dx fs) ∧ fs.lookup m = none ∧ t σ H1 fun vs H2 => sp (x :: vs) H2 Q (E σ)
section
variable {X : Cx} {CX : CXT} {k : Nat} {f C : Addr} {fd : FuncData} {ps : List Str} {sp : Sp} {E : St → XK} {m : Str} {pos apos : Pos} {e o : Expr} {es : List Expr} {ta : TE} {t : TA}
theorem pe_methX {pl : Sem Bool} (he : PE X o ta) (c : Cls X.K C) (hm : Meth X.K C m f) (F : FnOk X.prog X.w X.K X.mg X.base CX k f fd ps sp) (hr : Room k X.A) (hb : Binds X.K fd ps []) (hx : ∀ σ, PassesAt CX X σ (E σ)) (ha : PA X (e :: es) t)
    (hst : starEach (e :: es) X.env = (false, eval e X.env) :: starEach es X.env := by rfl) (hpl : (backTo pos (starEach es X.env)).any (·.1) = false := by rfl)
    (ht : eval (.Call (.Attribute o m apos) (e :: es) [] pos) X.env = (do
      let ov ← eval o X.env
      standAt apos.atName
      let (f, first) ← holding [ov] (getMethod ov m pl)
      callWith pos f first (backTo pos (starEach (e :: es) X.env)) (backToKw pos (keywordEach [] X.env))) := by rfl) :
    PE X (.Call (.Attribute o m apos) (e :: es) [] pos) (tMethX C m sp E ta t) := by
  refine ⟨fun pins s σ H Q I h => ?_⟩
  refine PySem.W.methodCall_KW (pl := pl) (thn (he.run pins s σ H _ I h) fun u s1 ⟨x, H1, I1, rx, a, dx, fs, ex, ea, l, q⟩ => ?_) ht
  subst ex
  obtain rfl : u = Value.ref a := rx
  refine getmeth_ok I1 ea c hm l ?_
  refine PySem.W.callWith_K (first := [.ref a]) (h₀ := X.base) I.ok.mod.kin hm.kp (thn (ha.run pos pins s1 σ H1 _ I1 q) fun us s2 ⟨vs, H2, I2, r, q2⟩ => ⟨I2.kIn, ?_⟩) hst hpl
  exact run_fnS (us := .ref a :: us) (vs := .ref a :: vs) F hr hb (hx σ) I2 (.cons rfl r) q2
end
end L2
namespace Kr
open PySem L2
def methXF (C : Addr) (m : Str) (t : SpTX) (W : PyData → AS → Prop) (ta : TEA) (tl : TLA) : TEA := fun s Q => ta s fun x s1 => onSome (objAt s1 x) fun N => N.2.2.1 = C ∧ lookF m N.2.2.2.2.1 = none ∧ tl s1 fun xs s2 => callWX t W (x :: xs) s2 (resF Q)
section
variable {X : Cx} {B : Bs} {ad : List Addr} {F H : Hp} {s : AS} {σ : L2.St} {o e : Expr} {es : List Expr} {pos apos : Pos} {ta : TEA} {tl : TLA} {C fa : Addr} {fd : FuncData} {ps : List Str} {k n : Nat} {m : Str} {t : SpTX} {W : PyData → AS → Prop}
theorem fendX {Q : VQ} {xs : List AVal} {vs : List V} {E : XK} (hn : vs.length = n) (r : Rl B ad F H s σ) (hv : Paired (VOk ad F) xs vs) (q : callWX t W xs s (resF Q)) (hE : ∀ F2 H2 C y d s2, Rl B ad F2 H2 s2 σ → AtOk F2 y d → W (errD C y) s2 → E (.ref C) d H2) : spAX n t vs H (Post B ad F σ Q) E :=
  call_postX hn r hv q (fun F2 H2 y v s2 r2 k2 hd hp => ⟨ad, F2, .d y, s2, Ext.refl _, k2, r2, hd, hp⟩)
    (fun F2 H2 H3 c p o s2 r2 k2 hp e3 ok hl hP => PostN.frz (Q := Q) ⟨ad, F2, c, s2, p, H2, o, Ext.refl _, k2, r2, rfl, hp, e3, ok, hl, hP⟩) (fun F2 H2 t p s2 _ _ _ h => h.elim) (fun F2 H2 k n p s2 _ _ _ _ h => h.elim) (fun F2 H2 ex new ad' ys ws p s2 _ _ _ _ _ _ _ h => h.elim) hE
theorem spAX_imp {vs : List V} {Q Q' : VK} {E : XK} (h : spAX n t vs H Q E) (k : ∀ v H', Q v H' → Q' v H') : spAX n t vs H Q' E := by
  obtain ⟨F, ad, cs, xs, P, PE, h1, h2, h3, h4, h5, h6⟩ := h
  exact ⟨F, ad, cs, xs, P, PE, h1, h2, h3, h4, fun v H2 r => k _ _ (h5 v H2 r), h6⟩
theorem ea_methXF {pl : Sem Bool} (c : Cls X.K C) (hm : Meth X.K C m fa) (G : FnOk X.prog X.w X.K X.mg X.base (L2.CX X.prog X.w) k fa fd ps (spAX n t)) (hr : Room k X.A) (hb : Binds X.K fd ps []) (tk : Takes X (Lx B W)) (ho : EA X B o ta) (ha : EL X B (e :: es) tl) (hn : (e :: es).length + 1 = n := by rfl)
    (hst : starEach (e :: es) X.env = (false, eval e X.env) :: starEach es X.env := by rfl) (hpl : (backTo pos (starEach es X.env)).any (·.1) = false := by rfl)
    (ht : eval (.Call (.Attribute o m apos) (e :: es) [] pos) X.env = (do
      let ov ← eval o X.env
      standAt apos.atName
      let (f, first) ← holding [ov] (getMethod ov m pl)
      callWith pos f first (backTo pos (starEach (e :: es) X.env)) (backToKw pos (keywordEach [] X.env))) := by rfl) : EA X B (.Call (.Attribute o m apos) (e :: es) [] pos) (methXF C m t W ta tl) := ⟨fun ad F H s σ Q r h =>
  we_of (pe_methX pe_we c hm G hr hb (fun σ => passAt tk σ) pa_wa hst hpl ht) ((ho.run ad F H s σ _ r h).imp fun u H1 q => by
    obtain ⟨ad1, F1, x, s1, e1, k1, r1, hx, ⟨n0, pt, C', dx, fs, q0, ts⟩, hN, hC, hl, q⟩ := q
    have hC : C' = C := hC
    subst hC
    obtain ⟨t0, p, vs, N⟩ := objAt_ok r1 hx hN
    refine ⟨q0, dx, _, N.val, N.ho, lookF_none hl, (ha.run ad1 F1 H1 s1 σ _ r1 q).imp fun ws H2 q => ?_⟩
    obtain ⟨ad2, F2, xs, s2, e2, k2, r2, hv, hxl, q⟩ := q
    exact spAX_imp (fendX (by rw [List.length_cons, ← Paired.len hv, hxl]; exact hn) r2 (.cons (hx.mono e2 k2) hv) q fun F3 H3 C3 y d s3 r3 ha3 w => ⟨C3, y, ad2, F3, s3, rfl, ha3, r3, w⟩) fun v H3 hp => (hp.up e2 k2).up e1 k1)⟩
end
end Kr
namespace Kr
open PySem L2
/-! ## a dict of the program's top, with text keys and ints -/
structure KD (K : PySem.W.Frag) (w : World) (mg : Str → Option Value) (nm : Str) (tab : List (Str × Int)) : Prop where
  ex : ∃ d, mg nm = some (.ref d) ∧ (∃ es n, KDict K w d es n) ∧ ∀ z i, tab.lookup z = some i → ∃ t, PySem.W.nsIn K d z = some (some (.int i t))
def kdInT (neg : Bool) (tab : List (Str × Int)) (ta : TEA) : TTA := fun s Q => ta s fun x s1 => onSome x.str? fun z => onSome (tab.lookup z) fun _ => Q (!neg) s1
def kdIxA (tab : List (Str × Int)) (ta : TEA) : TEA := fun s Q => ta s fun x s1 => onSome x.str? fun z => onSome (tab.lookup z) fun i => Q (.d (.int i)) s1
section
variable {X : Cx} {B : Bs} {e : Expr} {nm : Str} {tab : List (Str × Int)} {ta : TEA} {p pos : Pos}
theorem et_notInKD (D : KD X.K X.w X.mg nm tab) (ha : EA X B e ta) (hg : Gl X nm := by rfl) (hd : (nm == ("__debug__" : Str)) = false := by decide) (hm : behindInMarks .NotIn (.Name nm p) = false := by first | exact nomark _ | rfl) : ET X B (.Compare e [.NotIn] [.Name nm p] pos) (kdInT true tab ta) := ⟨fun ad F H s σ Q r t => by
  obtain ⟨d, hmg, ⟨es, n, hk⟩, hv⟩ := D.ex
  exact wt_of (pt_cmpR (op_any _) pe_we pe_we hm) ((ha.run ad F H s σ _ r t).imp fun u H1 q => by
    obtain ⟨ad1, F1, x, s1, e1, k1, r1, hx, z, hz, i, hi, q⟩ := q
    obtain rfl := AVal.str?_of hz
    obtain ⟨tk, hn⟩ := hv z i hi
    refine we_of (pe_glob hg hmg (show RelV (.ref d) (.ref d) from rfl) hd) ?_
    exact ⟨_, op_notIn_kd hk, z, _, hx, rfl, hn, false, rfl, (PostT.here r1 q).up e1 k1⟩)⟩
theorem ea_ixKD (D : KD X.K X.w X.mg nm tab) (ha : EA X B e ta) (hs : PlainIx e := by exact fun _ _ => rfl) (hg : Gl X nm := by rfl) (hd : (nm == ("__debug__" : Str)) = false := by decide) : EA X B (.Subscript (.Name nm p) e pos) (kdIxA tab ta) := ⟨fun ad F H s σ Q r t => by
  obtain ⟨d, hmg, ⟨es, n, hk⟩, hv⟩ := D.ex
  exact we_of (pe_ix ix_kdict (pe_glob hg hmg (show RelV (.ref d) (.ref d) from rfl) hd) pe_we hs) ((ha.run ad F H s σ _ r t).imp fun u H1 q => by
    obtain ⟨ad1, F1, x, s1, e1, k1, r1, hx, z, hz, i, hi, q⟩ := q
    obtain rfl := AVal.str?_of hz
    obtain ⟨tk, hn⟩ := hv z i hi
    exact ⟨d, z, .int i, rfl, hx, ⟨es, n, _, hk.at_, hk.lit, hn, ⟨tk, rfl⟩⟩, (Post.here (x := .d (.int i)) r1 rfl q).up e1 k1⟩)⟩
end
end Kr
namespace Kr
open PySem L2
/-! ## o.replace(y, w) of two written texts, behind a test that gave out a token -/
def replA (y w : Str) (to : TEA) : TEA := fun s Q => to s fun x s1 => onSome x.str? fun z => z.length + (z.length + 1) * w.length ≤ 16777216 ∧ Q (.d (.str (Txt.replace z y w))) s1
section
variable {X : Cx} {B : Bs} {a o : Expr} {ta to : TEA} {z y w : Str} {i j k : Nat} {c0 c1 c2 apos pos p rp ip : Pos}
theorem sa_ifRepl (heq : OpT X B (compareOp .Eq) (eqT false)) (ha : EA X B a ta) (ho : EA X B o to) (hyw : (y == w) = false := by decide) (hm : behindInMarks .Eq (.Constant (.str z) i c0) = false := by first | exact nomark _ | rfl)
    (hst : starEach [.Constant (.str y) j c1, .Constant (.str w) k c2] X.env = [(false, eval (.Constant (.str y) j c1) X.env), (false, eval (.Constant (.str w) k c2) X.env)] := by rfl)
    (hbase : attributeBase o "replace" X.env (eval o X.env) = eval o X.env := by rfl) (hline : (apos.endLine == pos.line) = true := by rfl) :
    SA X B (.If (.Compare a [.Eq] [.Constant (.str z) i c0] p) [.Return (some (.Call (.Attribute o "replace" apos) [.Constant (.str y) j c1, .Constant (.str w) k c2] [] pos)) rp] [] ip) (ifA (opT (eqT false) ta (cstA (.str z))) (retA (replA y w to)) nextA) := ⟨fun D s h ad F H σ r pins sh I => by
  refine wpAny_If (wpAny_isTrue_Compare1 (thn ((ha.run ad F H s σ _ r h) pins sh I) fun v s1 ⟨u, H1, I1, ru, q⟩ => ?_) hm)
  obtain ⟨ad1, F1, x, a1, e1, k1, r1, hx, q⟩ := q
  refine Calls.Constant_str ?_
  obtain ⟨b, rr, q0, q1, q2⟩ := heq ad1 F1 H1 a1 σ x (.d (.str z)) u (.str z) (fun b s1 => if b = true then retA (replA y w to) D s1 else nextA D s1) r1 hx (show Da F1 (.str z) (.str z) from rfl) q
  refine wpAny_mono (PySem.wpAny_toks (q1 pins { s1 with toks := s1.toks + 1 } σ H1 u (.str z) v (.str z s1.toks) (fun x' H' => x' = .bl b ∧ H' = H1) (I1.tok _) ru ⟨_, rfl⟩ (q2 _ ⟨rfl, rfl⟩))) (fun c s3 g => ?_) fun _ _ g => g.2
  obtain ⟨hk, x', H', I3, rc, ex, eh⟩ := g
  subst ex
  rw [eh] at I3
  cases rc
  refine wpAny_truthy_bool ?_
  cases b with
  | false => exact pss_nil.run pins s3 σ H1 _ I3 ⟨ad1, F1, a1, r1, q0⟩
  | true =>
    refine CwR.psst_one (CwR.pst_ret (CwR.pet_replC (pe_we (X := X) (e := o)) hyw hst hbase hline)) pins s3 σ H1 _ (by have : s1.toks + 1 ≤ s3.toks := hk; omega) I3 ?_
    refine (ho.run ad1 F1 H1 a1 σ _ r1 q0).imp fun v2 H2 q => ?_
    obtain ⟨ad2, F2, y2, a2, e2, k2, r2, hy, z2, hz, hb, q⟩ := q
    obtain rfl := AVal.str?_of hz
    exact ⟨z2, hy, hb, ad2, F2, .d (.str (Txt.replace z2 y w)), a2, σ, r2, rfl, q⟩⟩
end
end Kr
namespace Kr
open PySem L2
/-! ## int of a text -/
def intSA (xs : List AVal) : TEA := fun s Q => one (fun x => onSome x.str? fun z => onSome (PySem.intText? z) fun i => z.length ≤ 640 ∧ Q (.d (.int i)) s) xs
theorem c_intS {X : Cx} {B : Bs} : CalA X B (.type "int") intSA := fun ad F H s σ xs us Q r hp t => by
  obtain ⟨x, u, rfl, rfl, hx, z, hz, i, hi, hl, q⟩ := one_ok t hp
  obtain rfl := AVal.str?_of hz
  exact ⟨_, call_int_str, z, i, by rw [show u = .str z from hx], hi, hl, .here (x := .d (.int i)) r rfl q⟩
end Kr
/-! layer A65 -/
namespace L2
open PySem PySem.Spec PyProof.Rows
/-! ## sorted(d) of a dict of text keys, of any size -/
/-- values that are a dict's keys in their order are texts, where its keys are -/
theorem strs_of_keys {out : List Value} {ps : List (Key × Value)} {zs : List Str} (hz : ps.map (·.1) = zs.map Sum.inr) (hl : out.length = ps.length) (h : ∀ (j : Nat) (v : Value), out[j]? = some v → ∃ (k : Key) (x : Value), ps[j]? = some (k, x) ∧ keyIs k v = true) : StrsAre out zs := by
  have l2 : ps.length = zs.length := by simpa using congrArg List.length hz
  refine strs_at (hl.trans l2) fun j v hv => ?_
  obtain ⟨k, x, h1, h2⟩ := h j v hv
  have h3 := congrArg (fun l : List Key => l[j]?) hz
  simp only [List.getElem?_map, h1, Option.map_some] at h3
  cases h4 : zs[j]? with
  | none => rw [h4] at h3; cases h3
  | some z =>
    rw [h4] at h3
    cases h3
    obtain ⟨t, h5⟩ := Value.isStrOf_shape (x := z) (v := v) h2
    exact ⟨z, t, rfl, h5⟩
section
variable {X : Cx}
def rSortedKeys : List V → Hp → VK → Prop := fun vs H Q => ∃ (d : Addr) (kvs : List (Key × V)) (zs : List Str), vs = [.ref d] ∧ Rd H d (.dK kvs) ∧ kvs.map (·.1) = zs.map Sum.inr ∧ zs.length ≤ 100000 ∧ ∀ ys p, ys.Perm zs → sortedS ys = true → H p = none → Q (.ref p) (upd H p (.lst (ys.map V.str)))
theorem cr_sortedKeys (hc : X.calm = true) : CallR X (.builtin "sorted") rSortedKeys := by
  rintro pins s σ H vs us Q I r ⟨d, kvs, zs, rfl, hd, hz, hn, q⟩
  rw [Vals.ref1 r]
  obtain ⟨_, lo, ps, rel, at_⟩ := dk_rd I.hok hd
  obtain ⟨ep, hat⟩ := at_.dictAt
  have hk : ps.map (·.1) = zs.map Sum.inr := by rw [← rel.keys]; exact hz
  have hl : ps.length = zs.length := by simpa using congrArg List.length hk
  have sz : 100000 ≤ sizeLine := by decide
  refine Calls.call_function_entry kind_sorted plain_sorted entry_sorted (args_sorted1 _) ?_
  unfold Builtin.«sorted»
  refine wpAny_bind (m := checkCount "sorted" 1 1 _) (wpAny_pure (wpAny_bind (PySem.W.kdu_collect (A := X.A.in1) (PySem.W.kdl_dict (knd := mixKind X.prog X.w) (kvs := ps) (ep := ep) lo) (I.ok.hd hc) hat (by omega) fun h1 t1 ar kept each => ?_)))
  have al : ar.toList.length = ps.length := by rw [Array.length_toList]; exact each.1
  have st := strs_of_keys hk al fun j v e => each.2 j v (by rw [← Array.getElem?_toList]; exact e)
  have al2 : ar.toList.length ≤ sizeLine := by omega
  have J : Inv X pins σ H { s with heap := h1, toks := t1 } := I.kept kept
  refine wpAny_bind (wpAny_newList ?_ al2)
  have ho : (h1.push (seqObj "list" ar.toList.toArray 0)).get? h1.objs.size = some (seqObj "list" ar.toList.toArray 0) := Heap.get?_push_size _ rfl
  refine wpAny_bind (wpAny_holding (wpAny_call_entry slot_list_sort ⟨_, ho, rfl⟩ entry_list_sort (list_sort_treeKAny strKind_oneLt (s := { s with heap := h1.push (seqObj "list" ar.toList.toArray 0), toks := t1 }) ho st.keysOf (fun a b l e => keyKind_strs (by rw [← e]; exact st)) al2 fun fin hp hs => ⟨_, rfl, ?_⟩) (args_list_sort _)))
  obtain ⟨ys, g1, g2, g3⟩ := sorted_out_str st hp hs
  obtain ⟨c, hc2⟩ := sortedHeap_at (vs := ar.toList) (out := (arrOf fin).map (·.2)) ho
  have yl : (ys.map V.str).length ≤ sizeLine := by rw [List.length_map, g2.length_eq]; omega
  refine wpAny_pure ⟨_, rfl, .ref h1.objs.size, upd H h1.objs.size (.lst (ys.map V.str)), J.laid (t' := t1) (fun b u e => ?_) (Nat.le_refl _) (show ObjOk X.prog X.w _ _ _ (.lst (ys.map V.str)) from ⟨yl, ((arrOf fin).map (·.2)).toList, c, vals_of_strs g1, by rw [Array.toArray_toList]; exact hc2⟩), rfl, q ys _ g2 g3 (J.hok.fresh (Nat.le_refl _))⟩
  have lt := Heap.lt_size e
  rw [sortedHeap_old (Nat.ne_of_lt lt) (by rw [size_push']; exact Nat.lt_succ_of_lt lt)]
  exact Heap.get?_push_of_some _ e
end
end L2
namespace Kr
open PySem L2
def sortedBV (x : AVal) (s : AS) (Q : Cell → AS → Prop) : View → Prop
  | .dct kvs => onSome (txtKeys kvs) fun ks => ks.length ≤ 100000 ∧ Q (.lst ((srt ks).map .str)) s
  | _ => False
def sortedBN (xs : List AVal) : TNA := fun s Q => one (fun x => sortedBV x s Q (view s x)) xs
section
variable {X : Cx} {B : Bs}
theorem c_sortedB (hc : X.calm = true) : CalN X B (.builtin "sorted") sortedBN := fun ad F H s σ xs us Q r hp t => by
  obtain ⟨x, u, rfl, rfl, hx, t⟩ := one_ok t hp
  cases hk : view s x with
  | dct kvs =>
    rw [hk] at t
    obtain ⟨ks, e, hl, q⟩ := t
    obtain ⟨l, es, rfl, h1, h2⟩ := hx.dct r hk
    refine ⟨_, cr_sortedKeys hc, l, es, ks, rfl, h1, txtKeys_ok e h2, hl, fun ys p hp hs hn => ?_⟩
    have := srt_eq hp hs
    subst this
    exact .here (c := .lst ((srt ks).map .str)) r hn ⟨_, upd_same, daAll_strs _⟩ rfl q
  | _ => rw [hk] at t; exact t.elim
theorem sortedBN_1 {x : AVal} {s : AS} {Q : Cell → AS → Prop} : sortedBN [x] s Q = sortedBV x s Q (view s x) := rfl
theorem sortedBV_d {x : AVal} {s : AS} {Q : Cell → AS → Prop} {kvs : List (Key × AVal)} : sortedBV x s Q (.dct kvs) = onSome (txtKeys kvs) fun ks => ks.length ≤ 100000 ∧ Q (.lst ((srt ks).map .str)) s := rfl
end
end Kr
/-! layer A66 -/
namespace Kr
open PySem L2
/-! ## a, b, c, d = x -/
def tup4V (g1 g2 g3 g4 : TGA) (s : AS) (Q : AS → Prop) : List AVal → Prop
  | [x1, x2, x3, x4] => g1 x1 s fun s1 => g2 x2 s1 fun s2 => g3 x3 s2 fun s3 => g4 x4 s3 Q
  | _ => False
def tup4G (g1 g2 g3 g4 : TGA) : TGA := fun x s Q => onSome (tupOf s x) (tup4V g1 g2 g3 g4 s Q)
section
variable {X : Cx} {t1 t2 t3 t4 : Expr} {ks1 ks2 ks3 ks4 : List Nat} {g1 g2 g3 g4 : TGA} {pos : Pos}
theorem tup4G_V {x : AVal} {s : AS} {Q : AS → Prop} : tup4G g1 g2 g3 g4 x s Q = onSome (tupOf s x) (tup4V g1 g2 g3 g4 s Q) := rfl
theorem tup4V_4 {s : AS} {QS : AS → Prop} {x y w z : AVal} : tup4V g1 g2 g3 g4 s QS [x, y, w, z] = g1 x s fun s1 => g2 y s1 fun s2 => g3 w s2 fun s3 => g4 z s3 QS := rfl
end
end Kr
/-! layer A67 -/
namespace Kr
open PySem L2
/-! ## a table of the top, from what its words and values are -/
theorem lookup_in {z : Str} {i : Int} : ∀ {tab : List (Str × Int)}, tab.lookup z = some i → (z, i) ∈ tab
  | [], h => by cases h
  | (y, j) :: tab, h => by
    rw [List.lookup_cons] at h
    split at h
    · rename_i e
      have e := beq_iff_eq.mp e
      cases h
      rw [e]
      exact List.mem_cons_self ..
    · exact List.mem_cons_of_mem _ (lookup_in h)
theorem kd_mk {K : PySem.W.Frag} {w : World} {mg : Str → Option Value} {nm : Str} {tab : List (Str × Int)} {d : Addr} (hm : mg nm = some (.ref d)) (hd : He.dicW K d = some (He.keysIn w.params (tab.map (·.1)))) (hv : ∀ p ∈ tab, ∃ t, PySem.W.nsIn K d p.1 = some (some (.int p.2 t))) : KD K w mg nm tab :=
  ⟨⟨d, hm, He.dicW_ok hd, fun z i h => hv (z, i) (lookup_in h)⟩⟩
end Kr
/-! layer A68 -/
namespace Kr
open PySem L2
def topS (i : Nat) : Stmt := PySem.Challenge.pw_keyrooms_k53_rows_that_keep.main.body.getD i (.Pass ⟨0, 0, 0, 0⟩)
abbrev s_is_kind_houses : Stmt := topS 16
theorem sc_is_kind_houses : FnScope ["thing", "sign"] ["thing"] (defScope s_is_kind_houses) := ⟨rfl, rfl, rfl, by decide +kernel, rfl, by decide +kernel, by decide +kernel⟩
abbrev s_are_keys : Stmt := topS 18
theorem sc_are_keys : FnScope ["thing", "one"] ["thing"] (defScope s_are_keys) := ⟨rfl, rfl, rfl, by decide +kernel, rfl, by decide +kernel, by decide +kernel⟩
abbrev s_is_room : Stmt := topS 19
theorem sc_is_room : FnScope ["thing"] ["thing"] (defScope s_is_room) := ⟨rfl, rfl, rfl, by decide +kernel, rfl, by decide +kernel, by decide +kernel⟩
abbrev s_is_house : Stmt := topS 20
theorem sc_is_house : FnScope ["thing", "room"] ["thing"] (defScope s_is_house) := ⟨rfl, rfl, rfl, by decide +kernel, rfl, by decide +kernel, by decide +kernel⟩
abbrev s_need_house : Stmt := topS 21
theorem sc_need_house : FnScope ["thing"] ["thing"] (defScope s_need_house) := ⟨rfl, rfl, rfl, by decide +kernel, rfl, by decide +kernel, by decide +kernel⟩
abbrev s_is_plain : Stmt := topS 22
abbrev s_may_be_opened : Stmt := topS 23
theorem sc_may_be_opened : FnScope ["hand", "locks", "kind"] ["hand", "locks"] (defScope s_may_be_opened) := ⟨rfl, rfl, rfl, by decide +kernel, rfl, by decide +kernel, by decide +kernel⟩
abbrev s_walked : Stmt := topS 24
theorem sc_walked : FnScope ["house", "order", "hand", "kind", "opened", "place", "room", "locks", "keys"] ["house", "order"] (defScope s_walked) := ⟨rfl, rfl, rfl, by decide +kernel, rfl, by decide +kernel, by decide +kernel⟩
abbrev s_keys_behind : Stmt := topS 25
theorem sc_keys_behind : FnScope ["house", "order", "hand", "opened", "found", "kind"] ["house", "order"] (defScope s_keys_behind) := ⟨rfl, rfl, rfl, by decide +kernel, rfl, by decide +kernel, by decide +kernel⟩
abbrev s_next_rooms : Stmt := topS 26
theorem sc_next_rooms : FnScope ["house", "order", "hand", "opened", "found", "room", "locks", "keys"] ["house", "order"] (defScope s_next_rooms) := ⟨rfl, rfl, rfl, by decide +kernel, rfl, by decide +kernel, by decide +kernel⟩
abbrev s_kinds_counted : Stmt := topS 28
abbrev s_kinds_that_come : Stmt := topS 29
abbrev s_rooms_that_come : Stmt := topS 30
abbrev s_need_plain : Stmt := topS 32
abbrev s_kinds_short : Stmt := topS 33
abbrev s_can_all : Stmt := topS 34
abbrev s_house_left : Stmt := topS 35
abbrev s_hand_behind : Stmt := topS 36
abbrev s_leads_on : Stmt := topS 37
abbrev s_order_of_all : Stmt := topS 38
abbrev s_shut_kinds : Stmt := topS 39
abbrev s_told_opening : Stmt := topS 40
abbrev s_kinds_lacking : Stmt := topS 42
abbrev s_kinds_led_to : Stmt := topS 43
abbrev s_shut_groups : Stmt := topS 44
abbrev s_keys_to_buy : Stmt := topS 45
abbrev s_first_order : Stmt := topS 47
abbrev s_need_few : Stmt := topS 50
abbrev s_counted_kinds : Stmt := topS 51
abbrev s_how_many_orders : Stmt := topS 53
abbrev s_nth_order : Stmt := topS 54
abbrev s_rooms_of : Stmt := topS 56
abbrev s_sets_that_come : Stmt := topS 57
abbrev s_need_worths : Stmt := topS 58
abbrev s_worth_of : Stmt := topS 59
abbrev s_most_rooms : Stmt := topS 60
abbrev s_most_worth : Stmt := topS 61
abbrev s_all_of : Stmt := topS 68
theorem sc_all_of : FnScope ["word", "signs", "sign"] ["word", "signs"] (defScope s_all_of) := ⟨rfl, rfl, rfl, by decide +kernel, rfl, by decide +kernel, by decide +kernel⟩
abbrev s_is_kind_rows : Stmt := topS 69
theorem sc_is_kind_rows : FnScope ["word"] ["word"] (defScope s_is_kind_rows) := ⟨rfl, rfl, rfl, by decide +kernel, rfl, by decide +kernel, by decide +kernel⟩
abbrev s_is_number : Stmt := topS 71
theorem sc_is_number : FnScope ["word"] ["word"] (defScope s_is_number) := ⟨rfl, rfl, rfl, by decide +kernel, rfl, by decide +kernel, by decide +kernel⟩
abbrev s_keys_asked : Stmt := topS 72
theorem sc_keys_asked : FnScope ["words", "word"] ["words"] (defScope s_keys_asked) := ⟨rfl, rfl, rfl, by decide +kernel, rfl, by decide +kernel, by decide +kernel⟩
abbrev s_locks_asked : Stmt := topS 73
theorem sc_locks_asked : FnScope ["word", "locks", "one"] ["word"] (defScope s_locks_asked) := ⟨rfl, rfl, rfl, by decide +kernel, rfl, by decide +kernel, by decide +kernel⟩
abbrev s_joined_words : Stmt := topS 74
theorem sc_joined_words : FnScope ["things", "one"] ["things"] (defScope s_joined_words) := ⟨rfl, rfl, rfl, by decide +kernel, rfl, by decide +kernel, by decide +kernel⟩
abbrev s_words_asked : Stmt := topS 75
theorem sc_words_asked : FnScope ["row", "words", "word"] ["row"] (defScope s_words_asked) := ⟨rfl, rfl, rfl, by decide +kernel, rfl, by decide +kernel, by decide +kernel⟩
abbrev s_show_keys : Stmt := topS 77
theorem sc_show_keys : FnScope ["keys"] ["keys"] (defScope s_show_keys) := ⟨rfl, rfl, rfl, by decide +kernel, rfl, by decide +kernel, by decide +kernel⟩
abbrev s_show_room : Stmt := topS 78
theorem sc_show_room : FnScope ["room"] ["room"] (defScope s_show_room) := ⟨rfl, rfl, rfl, by decide +kernel, rfl, by decide +kernel, by decide +kernel⟩
abbrev s_show_house : Stmt := topS 79
theorem sc_show_house : FnScope ["house", "room"] ["house"] (defScope s_show_house) := ⟨rfl, rfl, rfl, by decide +kernel, rfl, by decide +kernel, by decide +kernel⟩
abbrev s_opening_words : Stmt := topS 82
abbrev s_law_cell_at : Stmt := topS 85
theorem sc_law_cell_at : FnScope ["script", "k"] ["script", "k"] (defScope s_law_cell_at) := ⟨rfl, rfl, rfl, by decide +kernel, rfl, by decide +kernel, by decide +kernel⟩
abbrev s_law_numbers : Stmt := topS 86
theorem sc_law_numbers : FnScope ["cell", "many", "found", "rest", "stir", "k", "again"] ["cell", "many"] (defScope s_law_numbers) := ⟨rfl, rfl, rfl, by decide +kernel, rfl, by decide +kernel, by decide +kernel⟩
abbrev s_law_deck : Stmt := topS 87
theorem sc_law_deck : FnScope ["cell", "many"] ["cell", "many"] (defScope s_law_deck) := ⟨rfl, rfl, rfl, by decide +kernel, rfl, by decide +kernel, by decide +kernel⟩
abbrev s_law_take : Stmt := topS 88
theorem sc_law_take : FnScope ["deck", "many"] ["deck", "many"] (defScope s_law_take) := ⟨rfl, rfl, rfl, by decide +kernel, rfl, by decide +kernel, by decide +kernel⟩
abbrev s_law_kind : Stmt := topS 89
theorem sc_law_kind : FnScope ["deck", "few", "way", "some", "word", "k"] ["deck", "few"] (defScope s_law_kind) := ⟨rfl, rfl, rfl, by decide +kernel, rfl, by decide +kernel, by decide +kernel⟩
abbrev s_law_keys : Stmt := topS 90
theorem sc_law_keys : FnScope ["deck", "few", "most", "k"] ["deck", "few", "most"] (defScope s_law_keys) := ⟨rfl, rfl, rfl, by decide +kernel, rfl, by decide +kernel, by decide +kernel⟩
abbrev s_law_house : Stmt := topS 91
theorem sc_law_house : FnScope ["deck", "most", "locks", "few", "rooms", "k", "some", "j"] ["deck", "most", "locks"] (defScope s_law_house) := ⟨rfl, rfl, rfl, by decide +kernel, rfl, by decide +kernel, by decide +kernel⟩
abbrev s_law_keys_written : Stmt := topS 92
theorem sc_law_keys_written : FnScope ["keys"] ["keys"] (defScope s_law_keys_written) := ⟨rfl, rfl, rfl, by decide +kernel, rfl, by decide +kernel, by decide +kernel⟩
abbrev s_law_lines : Stmt := topS 93
theorem sc_law_lines : FnScope ["house", "lines", "locks", "keys"] ["house"] (defScope s_law_lines) := ⟨rfl, rfl, rfl, by decide +kernel, rfl, by decide +kernel, by decide +kernel⟩
abbrev s_law_hand : Stmt := topS 95
theorem sc_law_hand : FnScope ["house", "order", "hand", "k", "lock"] ["house", "order"] (defScope s_law_hand) := ⟨rfl, rfl, rfl, by decide +kernel, rfl, by decide +kernel, by decide +kernel⟩
abbrev s_law_next : Stmt := topS 96
theorem sc_law_next : FnScope ["house", "order", "room"] ["house", "order"] (defScope s_law_next) := ⟨rfl, rfl, rfl, by decide +kernel, rfl, by decide +kernel, by decide +kernel⟩
abbrev s_law_words : Stmt := topS 97
theorem sc_law_words : FnScope ["things", "one"] ["things"] (defScope s_law_words) := ⟨rfl, rfl, rfl, by decide +kernel, rfl, by decide +kernel, by decide +kernel⟩
abbrev s_law_said : Stmt := topS 98
theorem sc_law_said : FnScope ["desk", "row", "caught", "found", "e", "kinds"] ["desk", "row"] (defScope s_law_said) := ⟨rfl, rfl, rfl, by decide +kernel, rfl, by decide +kernel, by decide +kernel⟩
abbrev s_law_house_rows : Stmt := topS 99
theorem sc_law_house_rows : FnScope ["deck", "house", "rows", "locks", "keys", "by", "some"] ["deck", "house"] (defScope s_law_house_rows) := ⟨rfl, rfl, rfl, by decide +kernel, rfl, by decide +kernel, by decide +kernel⟩
abbrev s_law_row : Stmt := topS 100
theorem sc_law_row : FnScope ["deck", "state", "way", "few", "room", "number", "keys", "k", "row"] ["deck", "state"] (defScope s_law_row) := ⟨rfl, rfl, rfl, by decide +kernel, rfl, by decide +kernel, by decide +kernel⟩
abbrev s_law_as_kept : Stmt := topS 101
theorem sc_law_as_kept : FnScope ["desk", "state", "house"] ["desk", "state"] (defScope s_law_as_kept) := ⟨rfl, rfl, rfl, by decide +kernel, rfl, by decide +kernel, by decide +kernel⟩
abbrev s_law : Stmt := topS 102
theorem sc_law : FnScope ["script", "desk", "other", "beside", "row", "state", "k", "deck", "due"] ["script"] (defScope s_law) := ⟨rfl, rfl, rfl, by decide +kernel, rfl, by decide +kernel, by decide +kernel⟩
abbrev s_Opened_init : Stmt := inClass (topS 52) 0
abbrev s_Opened_hand_at : Stmt := inClass (topS 52) 1
abbrev s_Opened_next_at : Stmt := inClass (topS 52) 2
abbrev s_Opened_to_all : Stmt := inClass (topS 52) 3
abbrev s_Desk_init : Stmt := inClass (topS 83) 0
theorem sc_Desk_init : FnScope ["self"] ["self"] (defScope s_Desk_init) := ⟨rfl, rfl, rfl, by decide +kernel, rfl, by decide +kernel, by decide +kernel⟩
abbrev s_Desk_begin_anew : Stmt := inClass (topS 83) 1
theorem sc_Desk_begin_anew : FnScope ["self"] ["self"] (defScope s_Desk_begin_anew) := ⟨rfl, rfl, rfl, by decide +kernel, rfl, by decide +kernel, by decide +kernel⟩
abbrev s_Desk_house : Stmt := inClass (topS 83) 2
theorem sc_Desk_house : FnScope ["self"] ["self"] (defScope s_Desk_house) := ⟨rfl, rfl, rfl, by decide +kernel, rfl, by decide +kernel, by decide +kernel⟩
abbrev s_Desk_put_room : Stmt := inClass (topS 83) 3
theorem sc_Desk_put_room : FnScope ["self", "locks", "keys"] ["self", "locks", "keys"] (defScope s_Desk_put_room) := ⟨rfl, rfl, rfl, by decide +kernel, rfl, by decide +kernel, by decide +kernel⟩
abbrev s_Desk_changed : Stmt := inClass (topS 83) 4
theorem sc_Desk_changed : FnScope ["self", "words", "order"] ["self", "words"] (defScope s_Desk_changed) := ⟨rfl, rfl, rfl, by decide +kernel, rfl, by decide +kernel, by decide +kernel⟩
abbrev s_Desk_stands : Stmt := inClass (topS 83) 5
theorem sc_Desk_stands : FnScope ["self", "word"] ["self", "word"] (defScope s_Desk_stands) := ⟨rfl, rfl, rfl, by decide +kernel, rfl, by decide +kernel, by decide +kernel⟩
abbrev s_Desk_told : Stmt := inClass (topS 83) 6
abbrev s_Desk_say : Stmt := inClass (topS 83) 7
theorem sc_Desk_say : FnScope ["self", "row", "words", "answer"] ["self", "row"] (defScope s_Desk_say) := ⟨rfl, rfl, rfl, by decide +kernel, rfl, by decide +kernel, by decide +kernel⟩
abbrev s_NoStep_init : Stmt := inClass (topS 11) 0
theorem sc_NoStep_init : FnScope ["self", "at"] ["self", "at"] (defScope s_NoStep_init) := ⟨rfl, rfl, rfl, by decide +kernel, rfl, by decide +kernel, by decide +kernel⟩
structure Tx (K : PySem.W.Frag) (mg : Str → Option Value) (w : World) where
  f_is_kind_houses : Addr
  d_is_kind_houses : FuncData
  F_is_kind_houses : Fun K "is_kind" "is_kind" s_is_kind_houses f_is_kind_houses d_is_kind_houses
  b_is_kind_houses : Binds K d_is_kind_houses ["thing"] []
  g_is_kind_houses : mg "is_kind_houses" = some (.ref f_is_kind_houses)
  f_are_keys : Addr
  d_are_keys : FuncData
  F_are_keys : Fun K "are_keys" "are_keys" s_are_keys f_are_keys d_are_keys
  b_are_keys : Binds K d_are_keys ["thing"] []
  g_are_keys : mg "are_keys" = some (.ref f_are_keys)
  f_is_room : Addr
  d_is_room : FuncData
  F_is_room : Fun K "is_room" "is_room" s_is_room f_is_room d_is_room
  b_is_room : Binds K d_is_room ["thing"] []
  g_is_room : mg "is_room" = some (.ref f_is_room)
  f_is_house : Addr
  d_is_house : FuncData
  F_is_house : Fun K "is_house" "is_house" s_is_house f_is_house d_is_house
  b_is_house : Binds K d_is_house ["thing"] []
  g_is_house : mg "is_house" = some (.ref f_is_house)
  f_need_house : Addr
  d_need_house : FuncData
  F_need_house : Fun K "need_house" "need_house" s_need_house f_need_house d_need_house
  b_need_house : Binds K d_need_house ["thing"] []
  g_need_house : mg "need_house" = some (.ref f_need_house)
  f_is_plain : Addr
  d_is_plain : FuncData
  F_is_plain : Fun K "is_plain" "is_plain" s_is_plain f_is_plain d_is_plain
  b_is_plain : Binds K d_is_plain ["house"] []
  g_is_plain : mg "is_plain" = some (.ref f_is_plain)
  f_may_be_opened : Addr
  d_may_be_opened : FuncData
  F_may_be_opened : Fun K "may_be_opened" "may_be_opened" s_may_be_opened f_may_be_opened d_may_be_opened
  b_may_be_opened : Binds K d_may_be_opened ["hand", "locks"] []
  g_may_be_opened : mg "may_be_opened" = some (.ref f_may_be_opened)
  f_walked : Addr
  d_walked : FuncData
  F_walked : Fun K "walked" "walked" s_walked f_walked d_walked
  b_walked : Binds K d_walked ["house", "order"] []
  g_walked : mg "walked" = some (.ref f_walked)
  f_keys_behind : Addr
  d_keys_behind : FuncData
  F_keys_behind : Fun K "keys_behind" "keys_behind" s_keys_behind f_keys_behind d_keys_behind
  b_keys_behind : Binds K d_keys_behind ["house", "order"] []
  g_keys_behind : mg "keys_behind" = some (.ref f_keys_behind)
  f_next_rooms : Addr
  d_next_rooms : FuncData
  F_next_rooms : Fun K "next_rooms" "next_rooms" s_next_rooms f_next_rooms d_next_rooms
  b_next_rooms : Binds K d_next_rooms ["house", "order"] []
  g_next_rooms : mg "next_rooms" = some (.ref f_next_rooms)
  f_kinds_counted : Addr
  d_kinds_counted : FuncData
  F_kinds_counted : Fun K "kinds_counted" "kinds_counted" s_kinds_counted f_kinds_counted d_kinds_counted
  b_kinds_counted : Binds K d_kinds_counted ["house"] []
  g_kinds_counted : mg "kinds_counted" = some (.ref f_kinds_counted)
  f_kinds_that_come : Addr
  d_kinds_that_come : FuncData
  F_kinds_that_come : Fun K "kinds_that_come" "kinds_that_come" s_kinds_that_come f_kinds_that_come d_kinds_that_come
  b_kinds_that_come : Binds K d_kinds_that_come ["house"] []
  g_kinds_that_come : mg "kinds_that_come" = some (.ref f_kinds_that_come)
  f_rooms_that_come : Addr
  d_rooms_that_come : FuncData
  F_rooms_that_come : Fun K "rooms_that_come" "rooms_that_come" s_rooms_that_come f_rooms_that_come d_rooms_that_come
  b_rooms_that_come : Binds K d_rooms_that_come ["house"] []
  g_rooms_that_come : mg "rooms_that_come" = some (.ref f_rooms_that_come)
  f_need_plain : Addr
  d_need_plain : FuncData
  F_need_plain : Fun K "need_plain" "need_plain" s_need_plain f_need_plain d_need_plain
  b_need_plain : Binds K d_need_plain ["house"] []
  g_need_plain : mg "need_plain" = some (.ref f_need_plain)
  f_kinds_short : Addr
  d_kinds_short : FuncData
  F_kinds_short : Fun K "kinds_short" "kinds_short" s_kinds_short f_kinds_short d_kinds_short
  b_kinds_short : Binds K d_kinds_short ["house"] []
  g_kinds_short : mg "kinds_short" = some (.ref f_kinds_short)
  f_can_all : Addr
  d_can_all : FuncData
  F_can_all : Fun K "can_all" "can_all" s_can_all f_can_all d_can_all
  b_can_all : Binds K d_can_all ["house"] []
  g_can_all : mg "can_all" = some (.ref f_can_all)
  f_house_left : Addr
  d_house_left : FuncData
  F_house_left : Fun K "house_left" "house_left" s_house_left f_house_left d_house_left
  b_house_left : Binds K d_house_left ["house", "hand", "left"] []
  g_house_left : mg "house_left" = some (.ref f_house_left)
  f_hand_behind : Addr
  d_hand_behind : FuncData
  F_hand_behind : Fun K "hand_behind" "hand_behind" s_hand_behind f_hand_behind d_hand_behind
  b_hand_behind : Binds K d_hand_behind ["hand", "room"] []
  g_hand_behind : mg "hand_behind" = some (.ref f_hand_behind)
  f_leads_on : Addr
  d_leads_on : FuncData
  F_leads_on : Fun K "leads_on" "leads_on" s_leads_on f_leads_on d_leads_on
  b_leads_on : Binds K d_leads_on ["house", "hand", "left", "room"] []
  g_leads_on : mg "leads_on" = some (.ref f_leads_on)
  f_order_of_all : Addr
  d_order_of_all : FuncData
  F_order_of_all : Fun K "order_of_all" "order_of_all" s_order_of_all f_order_of_all d_order_of_all
  b_order_of_all : Binds K d_order_of_all ["house"] []
  g_order_of_all : mg "order_of_all" = some (.ref f_order_of_all)
  f_shut_kinds : Addr
  d_shut_kinds : FuncData
  F_shut_kinds : Fun K "shut_kinds" "shut_kinds" s_shut_kinds f_shut_kinds d_shut_kinds
  b_shut_kinds : Binds K d_shut_kinds ["house"] []
  g_shut_kinds : mg "shut_kinds" = some (.ref f_shut_kinds)
  f_told_opening : Addr
  d_told_opening : FuncData
  F_told_opening : Fun K "told_opening" "told_opening" s_told_opening f_told_opening d_told_opening
  b_told_opening : Binds K d_told_opening ["house"] []
  g_told_opening : mg "told_opening" = some (.ref f_told_opening)
  f_kinds_lacking : Addr
  d_kinds_lacking : FuncData
  F_kinds_lacking : Fun K "kinds_lacking" "kinds_lacking" s_kinds_lacking f_kinds_lacking d_kinds_lacking
  b_kinds_lacking : Binds K d_kinds_lacking ["house"] []
  g_kinds_lacking : mg "kinds_lacking" = some (.ref f_kinds_lacking)
  f_kinds_led_to : Addr
  d_kinds_led_to : FuncData
  F_kinds_led_to : Fun K "kinds_led_to" "kinds_led_to" s_kinds_led_to f_kinds_led_to d_kinds_led_to
  b_kinds_led_to : Binds K d_kinds_led_to ["house", "kind"] []
  g_kinds_led_to : mg "kinds_led_to" = some (.ref f_kinds_led_to)
  f_shut_groups : Addr
  d_shut_groups : FuncData
  F_shut_groups : Fun K "shut_groups" "shut_groups" s_shut_groups f_shut_groups d_shut_groups
  b_shut_groups : Binds K d_shut_groups ["house"] []
  g_shut_groups : mg "shut_groups" = some (.ref f_shut_groups)
  f_keys_to_buy : Addr
  d_keys_to_buy : FuncData
  F_keys_to_buy : Fun K "keys_to_buy" "keys_to_buy" s_keys_to_buy f_keys_to_buy d_keys_to_buy
  b_keys_to_buy : Binds K d_keys_to_buy ["house"] []
  g_keys_to_buy : mg "keys_to_buy" = some (.ref f_keys_to_buy)
  f_first_order : Addr
  d_first_order : FuncData
  F_first_order : Fun K "first_order" "first_order" s_first_order f_first_order d_first_order
  b_first_order : Binds K d_first_order ["house"] []
  g_first_order : mg "first_order" = some (.ref f_first_order)
  f_need_few : Addr
  d_need_few : FuncData
  F_need_few : Fun K "need_few" "need_few" s_need_few f_need_few d_need_few
  b_need_few : Binds K d_need_few ["house"] []
  g_need_few : mg "need_few" = some (.ref f_need_few)
  f_counted_kinds : Addr
  d_counted_kinds : FuncData
  F_counted_kinds : Fun K "counted_kinds" "counted_kinds" s_counted_kinds f_counted_kinds d_counted_kinds
  b_counted_kinds : Binds K d_counted_kinds ["kinds"] []
  g_counted_kinds : mg "counted_kinds" = some (.ref f_counted_kinds)
  f_how_many_orders : Addr
  d_how_many_orders : FuncData
  F_how_many_orders : Fun K "how_many_orders" "how_many_orders" s_how_many_orders f_how_many_orders d_how_many_orders
  b_how_many_orders : Binds K d_how_many_orders ["house"] []
  g_how_many_orders : mg "how_many_orders" = some (.ref f_how_many_orders)
  f_nth_order : Addr
  d_nth_order : FuncData
  F_nth_order : Fun K "nth_order" "nth_order" s_nth_order f_nth_order d_nth_order
  b_nth_order : Binds K d_nth_order ["house", "k"] []
  g_nth_order : mg "nth_order" = some (.ref f_nth_order)
  f_rooms_of : Addr
  d_rooms_of : FuncData
  F_rooms_of : Fun K "rooms_of" "rooms_of" s_rooms_of f_rooms_of d_rooms_of
  b_rooms_of : Binds K d_rooms_of ["number"] []
  g_rooms_of : mg "rooms_of" = some (.ref f_rooms_of)
  f_sets_that_come : Addr
  d_sets_that_come : FuncData
  F_sets_that_come : Fun K "sets_that_come" "sets_that_come" s_sets_that_come f_sets_that_come d_sets_that_come
  b_sets_that_come : Binds K d_sets_that_come ["house"] []
  g_sets_that_come : mg "sets_that_come" = some (.ref f_sets_that_come)
  f_need_worths : Addr
  d_need_worths : FuncData
  F_need_worths : Fun K "need_worths" "need_worths" s_need_worths f_need_worths d_need_worths
  b_need_worths : Binds K d_need_worths ["house", "worths"] []
  g_need_worths : mg "need_worths" = some (.ref f_need_worths)
  f_worth_of : Addr
  d_worth_of : FuncData
  F_worth_of : Fun K "worth_of" "worth_of" s_worth_of f_worth_of d_worth_of
  b_worth_of : Binds K d_worth_of ["rooms", "worths"] []
  g_worth_of : mg "worth_of" = some (.ref f_worth_of)
  f_most_rooms : Addr
  d_most_rooms : FuncData
  F_most_rooms : Fun K "most_rooms" "most_rooms" s_most_rooms f_most_rooms d_most_rooms
  b_most_rooms : Binds K d_most_rooms ["house"] []
  g_most_rooms : mg "most_rooms" = some (.ref f_most_rooms)
  f_most_worth : Addr
  d_most_worth : FuncData
  F_most_worth : Fun K "most_worth" "most_worth" s_most_worth f_most_worth d_most_worth
  b_most_worth : Binds K d_most_worth ["house", "worths"] []
  g_most_worth : mg "most_worth" = some (.ref f_most_worth)
  f_all_of : Addr
  d_all_of : FuncData
  F_all_of : Fun K "all_of" "all_of" s_all_of f_all_of d_all_of
  b_all_of : Binds K d_all_of ["word", "signs"] []
  g_all_of : mg "all_of" = some (.ref f_all_of)
  f_is_kind_rows : Addr
  d_is_kind_rows : FuncData
  F_is_kind_rows : Fun K "is_kind" "is_kind" s_is_kind_rows f_is_kind_rows d_is_kind_rows
  b_is_kind_rows : Binds K d_is_kind_rows ["word"] []
  g_is_kind_rows : mg "is_kind_rows" = some (.ref f_is_kind_rows)
  f_is_number : Addr
  d_is_number : FuncData
  F_is_number : Fun K "is_number" "is_number" s_is_number f_is_number d_is_number
  b_is_number : Binds K d_is_number ["word"] []
  g_is_number : mg "is_number" = some (.ref f_is_number)
  f_keys_asked : Addr
  d_keys_asked : FuncData
  F_keys_asked : Fun K "keys_asked" "keys_asked" s_keys_asked f_keys_asked d_keys_asked
  b_keys_asked : Binds K d_keys_asked ["words"] []
  g_keys_asked : mg "keys_asked" = some (.ref f_keys_asked)
  f_locks_asked : Addr
  d_locks_asked : FuncData
  F_locks_asked : Fun K "locks_asked" "locks_asked" s_locks_asked f_locks_asked d_locks_asked
  b_locks_asked : Binds K d_locks_asked ["word"] []
  g_locks_asked : mg "locks_asked" = some (.ref f_locks_asked)
  f_joined_words : Addr
  d_joined_words : FuncData
  F_joined_words : Fun K "joined_words" "joined_words" s_joined_words f_joined_words d_joined_words
  b_joined_words : Binds K d_joined_words ["things"] []
  g_joined_words : mg "joined_words" = some (.ref f_joined_words)
  f_words_asked : Addr
  d_words_asked : FuncData
  F_words_asked : Fun K "words_asked" "words_asked" s_words_asked f_words_asked d_words_asked
  b_words_asked : Binds K d_words_asked ["row"] []
  g_words_asked : mg "words_asked" = some (.ref f_words_asked)
  f_show_keys : Addr
  d_show_keys : FuncData
  F_show_keys : Fun K "show_keys" "show_keys" s_show_keys f_show_keys d_show_keys
  b_show_keys : Binds K d_show_keys ["keys"] []
  g_show_keys : mg "show_keys" = some (.ref f_show_keys)
  f_show_room : Addr
  d_show_room : FuncData
  F_show_room : Fun K "show_room" "show_room" s_show_room f_show_room d_show_room
  b_show_room : Binds K d_show_room ["room"] []
  g_show_room : mg "show_room" = some (.ref f_show_room)
  f_show_house : Addr
  d_show_house : FuncData
  F_show_house : Fun K "show_house" "show_house" s_show_house f_show_house d_show_house
  b_show_house : Binds K d_show_house ["house"] []
  g_show_house : mg "show_house" = some (.ref f_show_house)
  f_opening_words : Addr
  d_opening_words : FuncData
  F_opening_words : Fun K "opening_words" "opening_words" s_opening_words f_opening_words d_opening_words
  b_opening_words : Binds K d_opening_words ["found"] []
  g_opening_words : mg "opening_words" = some (.ref f_opening_words)
  f_law_cell_at : Addr
  d_law_cell_at : FuncData
  F_law_cell_at : Fun K "_law_cell_at" "_law_cell_at" s_law_cell_at f_law_cell_at d_law_cell_at
  b_law_cell_at : Binds K d_law_cell_at ["script", "k"] []
  g_law_cell_at : mg "_law_cell_at" = some (.ref f_law_cell_at)
  f_law_numbers : Addr
  d_law_numbers : FuncData
  F_law_numbers : Fun K "_law_numbers" "_law_numbers" s_law_numbers f_law_numbers d_law_numbers
  b_law_numbers : Binds K d_law_numbers ["cell", "many"] []
  g_law_numbers : mg "_law_numbers" = some (.ref f_law_numbers)
  f_law_deck : Addr
  d_law_deck : FuncData
  F_law_deck : Fun K "_law_deck" "_law_deck" s_law_deck f_law_deck d_law_deck
  b_law_deck : Binds K d_law_deck ["cell", "many"] []
  g_law_deck : mg "_law_deck" = some (.ref f_law_deck)
  f_law_take : Addr
  d_law_take : FuncData
  F_law_take : Fun K "_law_take" "_law_take" s_law_take f_law_take d_law_take
  b_law_take : Binds K d_law_take ["deck", "many"] []
  g_law_take : mg "_law_take" = some (.ref f_law_take)
  f_law_kind : Addr
  d_law_kind : FuncData
  F_law_kind : Fun K "_law_kind" "_law_kind" s_law_kind f_law_kind d_law_kind
  b_law_kind : Binds K d_law_kind ["deck", "few"] []
  g_law_kind : mg "_law_kind" = some (.ref f_law_kind)
  f_law_keys : Addr
  d_law_keys : FuncData
  F_law_keys : Fun K "_law_keys" "_law_keys" s_law_keys f_law_keys d_law_keys
  b_law_keys : Binds K d_law_keys ["deck", "few", "most"] []
  g_law_keys : mg "_law_keys" = some (.ref f_law_keys)
  f_law_house : Addr
  d_law_house : FuncData
  F_law_house : Fun K "_law_house" "_law_house" s_law_house f_law_house d_law_house
  b_law_house : Binds K d_law_house ["deck", "most", "locks"] []
  g_law_house : mg "_law_house" = some (.ref f_law_house)
  f_law_keys_written : Addr
  d_law_keys_written : FuncData
  F_law_keys_written : Fun K "_law_keys_written" "_law_keys_written" s_law_keys_written f_law_keys_written d_law_keys_written
  b_law_keys_written : Binds K d_law_keys_written ["keys"] []
  g_law_keys_written : mg "_law_keys_written" = some (.ref f_law_keys_written)
  f_law_lines : Addr
  d_law_lines : FuncData
  F_law_lines : Fun K "_law_lines" "_law_lines" s_law_lines f_law_lines d_law_lines
  b_law_lines : Binds K d_law_lines ["house"] []
  g_law_lines : mg "_law_lines" = some (.ref f_law_lines)
  f_law_hand : Addr
  d_law_hand : FuncData
  F_law_hand : Fun K "_law_hand" "_law_hand" s_law_hand f_law_hand d_law_hand
  b_law_hand : Binds K d_law_hand ["house", "order"] []
  g_law_hand : mg "_law_hand" = some (.ref f_law_hand)
  f_law_next : Addr
  d_law_next : FuncData
  F_law_next : Fun K "_law_next" "_law_next" s_law_next f_law_next d_law_next
  b_law_next : Binds K d_law_next ["house", "order"] []
  g_law_next : mg "_law_next" = some (.ref f_law_next)
  f_law_words : Addr
  d_law_words : FuncData
  F_law_words : Fun K "_law_words" "_law_words" s_law_words f_law_words d_law_words
  b_law_words : Binds K d_law_words ["things"] []
  g_law_words : mg "_law_words" = some (.ref f_law_words)
  f_law_said : Addr
  d_law_said : FuncData
  F_law_said : Fun K "_law_said" "_law_said" s_law_said f_law_said d_law_said
  b_law_said : Binds K d_law_said ["desk", "row"] []
  g_law_said : mg "_law_said" = some (.ref f_law_said)
  f_law_house_rows : Addr
  d_law_house_rows : FuncData
  F_law_house_rows : Fun K "_law_house_rows" "_law_house_rows" s_law_house_rows f_law_house_rows d_law_house_rows
  b_law_house_rows : Binds K d_law_house_rows ["deck", "house"] []
  g_law_house_rows : mg "_law_house_rows" = some (.ref f_law_house_rows)
  f_law_row : Addr
  d_law_row : FuncData
  F_law_row : Fun K "_law_row" "_law_row" s_law_row f_law_row d_law_row
  b_law_row : Binds K d_law_row ["deck", "state"] []
  g_law_row : mg "_law_row" = some (.ref f_law_row)
  f_law_as_kept : Addr
  d_law_as_kept : FuncData
  F_law_as_kept : Fun K "_law_as_kept" "_law_as_kept" s_law_as_kept f_law_as_kept d_law_as_kept
  b_law_as_kept : Binds K d_law_as_kept ["desk", "state"] []
  g_law_as_kept : mg "_law_as_kept" = some (.ref f_law_as_kept)
  f_law : Addr
  d_law : FuncData
  F_law : Fun K "law" "law" s_law f_law d_law
  b_law : Binds K d_law ["script"] []
  g_law : mg "law" = some (.ref f_law)
  f_Opened_init : Addr
  d_Opened_init : FuncData
  F_Opened_init : Fun K "__init__" "Opened.__init__" s_Opened_init f_Opened_init d_Opened_init
  b_Opened_init : Binds K d_Opened_init ["self", "house"] []
  f_Opened_hand_at : Addr
  d_Opened_hand_at : FuncData
  F_Opened_hand_at : Fun K "hand_at" "Opened.hand_at" s_Opened_hand_at f_Opened_hand_at d_Opened_hand_at
  b_Opened_hand_at : Binds K d_Opened_hand_at ["self", "rooms"] []
  f_Opened_next_at : Addr
  d_Opened_next_at : FuncData
  F_Opened_next_at : Fun K "next_at" "Opened.next_at" s_Opened_next_at f_Opened_next_at d_Opened_next_at
  b_Opened_next_at : Binds K d_Opened_next_at ["self", "rooms"] []
  f_Opened_to_all : Addr
  d_Opened_to_all : FuncData
  F_Opened_to_all : Fun K "to_all" "Opened.to_all" s_Opened_to_all f_Opened_to_all d_Opened_to_all
  b_Opened_to_all : Binds K d_Opened_to_all ["self", "rooms"] []
  f_Desk_init : Addr
  d_Desk_init : FuncData
  F_Desk_init : Fun K "__init__" "Desk.__init__" s_Desk_init f_Desk_init d_Desk_init
  b_Desk_init : Binds K d_Desk_init ["self"] []
  f_Desk_begin_anew : Addr
  d_Desk_begin_anew : FuncData
  F_Desk_begin_anew : Fun K "begin_anew" "Desk.begin_anew" s_Desk_begin_anew f_Desk_begin_anew d_Desk_begin_anew
  b_Desk_begin_anew : Binds K d_Desk_begin_anew ["self"] []
  f_Desk_house : Addr
  d_Desk_house : FuncData
  F_Desk_house : Fun K "house" "Desk.house" s_Desk_house f_Desk_house d_Desk_house
  b_Desk_house : Binds K d_Desk_house ["self"] []
  f_Desk_put_room : Addr
  d_Desk_put_room : FuncData
  F_Desk_put_room : Fun K "put_room" "Desk.put_room" s_Desk_put_room f_Desk_put_room d_Desk_put_room
  b_Desk_put_room : Binds K d_Desk_put_room ["self", "locks", "keys"] []
  f_Desk_changed : Addr
  d_Desk_changed : FuncData
  F_Desk_changed : Fun K "changed" "Desk.changed" s_Desk_changed f_Desk_changed d_Desk_changed
  b_Desk_changed : Binds K d_Desk_changed ["self", "words"] []
  f_Desk_stands : Addr
  d_Desk_stands : FuncData
  F_Desk_stands : Fun K "stands" "Desk.stands" s_Desk_stands f_Desk_stands d_Desk_stands
  b_Desk_stands : Binds K d_Desk_stands ["self", "word"] []
  f_Desk_told : Addr
  d_Desk_told : FuncData
  F_Desk_told : Fun K "told" "Desk.told" s_Desk_told f_Desk_told d_Desk_told
  b_Desk_told : Binds K d_Desk_told ["self", "words"] []
  f_Desk_say : Addr
  d_Desk_say : FuncData
  F_Desk_say : Fun K "say" "Desk.say" s_Desk_say f_Desk_say d_Desk_say
  b_Desk_say : Binds K d_Desk_say ["self", "row"] []
  O : OT
  c_Opened : Cls K O.opened
  mk_Opened : Mk K O.opened f_Opened_init
  g_Opened : mg "Opened" = some (.ref O.opened)
  na_Opened_locks : NoAttr K O.opened "locks"
  na_Opened_within : NoAttr K O.opened "within"
  na_Opened_many : NoAttr K O.opened "many"
  na_Opened_all_rooms : NoAttr K O.opened "all_rooms"
  na_Opened_hands : NoAttr K O.opened "hands"
  na_Opened_goings : NoAttr K O.opened "goings"
  na_Opened_ends : NoAttr K O.opened "ends"
  me_Opened_hand_at : Meth K O.opened "hand_at" f_Opened_hand_at
  me_Opened_next_at : Meth K O.opened "next_at" f_Opened_next_at
  me_Opened_to_all : Meth K O.opened "to_all" f_Opened_to_all
  c_Desk : Cls K O.desk
  mk_Desk : Mk K O.desk f_Desk_init
  g_Desk : mg "Desk" = some (.ref O.desk)
  na_Desk_first_keys : NoAttr K O.desk "first_keys"
  na_Desk_rooms_here : NoAttr K O.desk "rooms_here"
  na_Desk_worths : NoAttr K O.desk "worths"
  na_Desk_gone_here : NoAttr K O.desk "gone_here"
  me_Desk_begin_anew : Meth K O.desk "begin_anew" f_Desk_begin_anew
  me_Desk_house : Meth K O.desk "house" f_Desk_house
  me_Desk_put_room : Meth K O.desk "put_room" f_Desk_put_room
  me_Desk_changed : Meth K O.desk "changed" f_Desk_changed
  me_Desk_stands : Meth K O.desk "stands" f_Desk_stands
  me_Desk_told : Meth K O.desk "told" f_Desk_told
  me_Desk_say : Meth K O.desk "say" f_Desk_say
  m_isinstance : mg "isinstance" = none
  m_str : mg "str" = none
  m_len : mg "len" = none
  m_list : mg "list" = none
  m_tuple : mg "tuple" = none
  m_sorted : mg "sorted" = none
  m_enumerate : mg "enumerate" = none
  m_bool : mg "bool" = none
  m_int : mg "int" = none
  m_dict : mg "dict" = none
  m_set : mg "set" = none
  m_range : mg "range" = none
  m_sum : mg "sum" = none
  m_max : mg "max" = none
  m_min : mg "min" = none
  m_ValueError : mg "ValueError" = none
  c_LETTERS_houses : Mg mg "LETTERS_houses" (.str "abcdefghijklmnopqrstuvwxyz")
  c_LONGEST_KIND : Mg mg "LONGEST_KIND" (.int 4)
  c_MOST_LOCKS_houses : Mg mg "MOST_LOCKS_houses" (.int 4)
  c_MOST_ROOMS_orders : Mg mg "MOST_ROOMS_orders" (.int 12)
  c_FIGURES : Mg mg "FIGURES" (.str "0123456789")
  c_LETTERS_rows : Mg mg "LETTERS_rows" (.str "abcdefghijklmnopqrstuvwxyz")
  c_MOST_LETTERS : Mg mg "MOST_LETTERS" (.int 4)
  c_MOST_LOCKS_rows : Mg mg "MOST_LOCKS_rows" (.int 4)
  c_NUMBERS : KD K w mg "NUMBERS" [("worth", 2), ("open", 1), ("nth", 1), ("back", 0), ("new", 0), ("hand", 0), ("next", 0), ("gone", 0), ("all", 0), ("first", 0), ("buy", 0), ("orders", 0), ("most", 0), ("best", 0), ("show", 0), ("rooms", 0)]
  c_MOST_ROOMS_desk : Mg mg "MOST_ROOMS_desk" (.int 12)
  E : ExT
  e_KeyroomError : Addr
  x_KeyroomError : mg "KeyroomError" = some (.ref e_KeyroomError)
  g_NoHouse : mg "NoHouse" = some (.ref (E.c .house))
  g_NoPlain : mg "NoPlain" = some (.ref (E.c .plain))
  g_NoOrder : mg "NoOrder" = some (.ref (E.c .order))
  g_NoNumber : mg "NoNumber" = some (.ref (E.c .number))
  g_NoKind : mg "NoKind" = some (.ref (E.c .kind))
  x_TooMany : ExcF K mg "TooMany" (E.c .many)
  q_TooMany : PySem.W.excIn K (E.c .many) veTail' "ValueError.__new__" = true
  g_TooMany : mg "TooMany" = some (.ref (E.c .many))
  g_NoText : mg "NoText" = some (.ref (E.c .text))
  g_NoRow : mg "NoRow" = some (.ref (E.c .row))
  x_NoStep : ExcF K mg "NoStep" (E.c .step)
  g_NoStep : mg "NoStep" = some (.ref (E.c .step))
  xC : ∀ n ∈ ([.many, .step] : List XN), ExcC K (E.c n)
  k_NoRow : ∀ n ∈ ([.many, .step] : List XN), PySem.W.kitOne K (.ref (E.c n)) (.ref (E.c .row)) = some (subX n "NoRow")
  k_NoStep : ∀ n ∈ ([.many, .step] : List XN), PySem.W.kitOne K (.ref (E.c n)) (.ref (E.c .step)) = some (subX n "NoStep")
  k_NoPlain : ∀ n ∈ ([.many, .step] : List XN), PySem.W.kitOne K (.ref (E.c n)) (.ref (E.c .plain)) = some (subX n "NoPlain")
  k_NoHouse : ∀ n ∈ ([.many, .step] : List XN), PySem.W.kitOne K (.ref (E.c n)) (.ref (E.c .house)) = some (subX n "NoHouse")
  k_NoKind : ∀ n ∈ ([.many, .step] : List XN), PySem.W.kitOne K (.ref (E.c n)) (.ref (E.c .kind)) = some (subX n "NoKind")
  k_NoOrder : ∀ n ∈ ([.many, .step] : List XN), PySem.W.kitOne K (.ref (E.c n)) (.ref (E.c .order)) = some (subX n "NoOrder")
  k_NoText : ∀ n ∈ ([.many, .step] : List XN), PySem.W.kitOne K (.ref (E.c n)) (.ref (E.c .text)) = some (subX n "NoText")
  k_NoNumber : ∀ n ∈ ([.many, .step] : List XN), PySem.W.kitOne K (.ref (E.c n)) (.ref (E.c .number)) = some (subX n "NoNumber")
  k_TooMany : ∀ n ∈ ([.many, .step] : List XN), PySem.W.kitOne K (.ref (E.c n)) (.ref (E.c .many)) = some (subX n "TooMany")
  k_ValueError : ∀ n ∈ ([.many, .step] : List XN), PySem.W.kitOne K (.ref (E.c n)) (.type "ValueError") = some (subX n "ValueError")
  h_KeyroomError : ∀ n ∈ ([.many, .step] : List XN), subX n "KeyroomError" = true → PySem.W.exmOne K (.ref (E.c n)) (.ref e_KeyroomError) = some true
  f_init : Addr
  d_init : FuncData
  st : StepT K mg (E.c .step) e_KeyroomError f_init
  xf : XfC K (E.c .step)
  F_init : Fun K "__init__" "NoStep.__init__" s_NoStep_init f_init d_init
  b_init : Binds K d_init ["self", "at"] []
theorem kk_init {P : Program} {w : World} {K : PySem.W.Frag} {mg : Str → Option Value} {base : Heap} (T : Tx K mg w) : FnOk P w K mg base CX0 1 T.f_init T.d_init ["self", "at"] (spInit K) :=
  ok_init T.F_init sc_NoStep_init T.st rfl fun cdv A outer s H E => ⟨_, pss_cons (ps_expr (pe_keinit T.st rfl (pa_cons (pv 0) (pa_cons pe_str pa_nil)))) (pss_one (ps_ost (pv 0) (pv 1))), rfl⟩
def tt_is_kind_houses (m : Nat) : TSA := (seqA (ifA (orA (notA (valA (isiT "str" (varA 0)))) (notA (chainT (fun i j => decide (i ≤ j)) (fun i j => decide (i ≤ j)) (cstA (.int 1)) (bltA lenA (consL (varA 0) nilL)) (cstA (.int 4))))) (retA (cstA (.bool false))) nextA)
    (retA (boolA (nilT false (frzA (lcN (ioT (iterTx (varA 0))) (nameG 1) (opT (inT true) (varA 1) (cstA (.str "abcdefghijklmnopqrstuvwxyz"))) (varA 1) [1]))))))
def TT_is_kind_houses : SpT := bodyT 1 (tt_is_kind_houses)
theorem kk_is_kind_houses {P : Program} {w : World} {K : PySem.W.Frag} {mg : Str → Option Value} {base : Heap} (T : Tx K mg w) : FnOk P w K mg base CX0 1 T.f_is_kind_houses T.d_is_kind_houses ["thing"] (spA 1 (TT_is_kind_houses)) :=
  okA T.F_is_kind_houses sc_is_kind_houses fun cdv A outer s H E B hr =>
    (ss_consA (sa_if (ET.of_w (ew_or (et_not (et_val (ea_isi (tn := "str") T.m_isinstance T.m_str (ea_v 0)))) (ew_or1 (et_not (et_chain op_le op_le ea_int (ea_blt c_len T.m_len (el_cons (ea_v 0) el_nil)) (ea_globI T.c_LONGEST_KIND)))))) (ss_oneA (sa_ret ea_bool)) ss_nilA)
      (ss_oneA (sa_ret (ea_eqNil hr.units (ea_frz (en_lcIf [("sign", 1)] (lcok sc_is_kind_houses (by decide +kernel)) (IO.of (ia_str (ea_v 0))) (fun _ _ _ _ _ => (gt_name 1 sc_is_kind_houses.nd)) (fun _ _ _ _ _ _ => (et_cmp (o_notIn (hu1 hr)) (ea_v 1) (ea_globS T.c_LETTERS_houses))) (fun _ _ _ _ _ _ => (ea_v 1))))))))
def tt_are_keys (m : Nat) : TSA := (retA (andV (isiT "list" (varA 0)) (boolA (nilT false (frzA (lcN (iterO (varA 0)) (nameG 1) (notA (valA (callF TT_is_kind_houses (consL (varA 1) nilL)))) (varA 1) [1]))))))
def TT_are_keys : SpT := bodyT 1 (tt_are_keys)
theorem kk_are_keys {P : Program} {w : World} {K : PySem.W.Frag} {mg : Str → Option Value} {base : Heap} (T : Tx K mg w) : FnOk P w K mg base CX0 2 T.f_are_keys T.d_are_keys ["thing"] (spA 1 (TT_are_keys)) :=
  okA T.F_are_keys sc_are_keys fun cdv A outer s H E B hr =>
    (ss_oneA (sa_ret (ea_and (ea_isi (tn := "list") T.m_isinstance T.m_list (ea_v 0)) (ea_one (ea_eqNil hr.units (ea_frz (en_lcIf [("one", 1)] (lcok sc_are_keys (by decide +kernel)) (io_list (ea_v 0)) (fun _ _ _ _ _ => (gt_name 1 sc_are_keys.nd)) (fun _ _ _ _ _ _ => (et_not (et_val (ea_callF (kk_is_kind_houses T) (hr.mono (by decide)) T.g_is_kind_houses T.F_is_kind_houses.kp T.b_is_kind_houses (el_cons (ea_v 1) el_nil))))) (fun _ _ _ _ _ _ => (ea_v 1)))))))))
def tt_is_room (m : Nat) : TSA := (seqA (ifA (orA (notA (valA (isiT "tuple" (varA 0)))) (orA (opT (eqT true) (bltA lenA (consL (varA 0) nilL)) (cstA (.int 2))) (orA (notA (valA (callF TT_are_keys (consL (opA ixA (varA 0) (cstA (.int 0))) nilL)))) (notA (valA (callF TT_are_keys (consL (opA ixA (varA 0) (cstA (.int 1))) nilL))))))) (retA (cstA (.bool false))) nextA)
    (retA (andV (boolA (chainT (fun i j => decide (i ≤ j)) (fun i j => decide (i ≤ j)) (cstA (.int 1)) (bltA lenA (consL (opA ixA (varA 0) (cstA (.int 0))) nilL)) (cstA (.int 4)))) (boolA (opT (eqT false) (opA ixA (varA 0) (cstA (.int 0))) (frzA (bltN sortedN (consL (opA ixA (varA 0) (cstA (.int 0))) nilL))))))))
def TT_is_room : SpT := bodyT 0 (tt_is_room)
theorem kk_is_room {P : Program} {w : World} {K : PySem.W.Frag} {mg : Str → Option Value} {base : Heap} (T : Tx K mg w) : FnOk P w K mg base CX0 3 T.f_is_room T.d_is_room ["thing"] (spA 1 (TT_is_room)) :=
  okA T.F_is_room sc_is_room fun cdv A outer s H E B hr =>
    (ss_consA (sa_if (ET.of_w (ew_or (et_not (et_val (ea_isi (tn := "tuple") T.m_isinstance T.m_tuple (ea_v 0)))) (ew_or (et_cmp (o_ne hr.units) (ea_blt c_len T.m_len (el_cons (ea_v 0) el_nil)) ea_int) (ew_or (et_not (et_val (ea_callF (kk_are_keys T) (hr.mono (by decide)) T.g_are_keys T.F_are_keys.kp T.b_are_keys (el_cons (ea_ix (hu1 hr) (ea_v 0) ea_int) el_nil)))) (ew_or1 (et_not (et_val (ea_callF (kk_are_keys T) (hr.mono (by decide)) T.g_are_keys T.F_are_keys.kp T.b_are_keys (el_cons (ea_ix (hu1 hr) (ea_v 0) ea_int) el_nil))))))))) (ss_oneA (sa_ret ea_bool)) ss_nilA)
      (ss_oneA (sa_ret (ea_and (ea_chain op_le op_le ea_int (ea_blt c_len T.m_len (el_cons (ea_ix (hu1 hr) (ea_v 0) ea_int) el_nil)) (ea_globI T.c_MOST_LOCKS_houses)) (ea_one (ea_cmp (o_eq hr.units) (ea_ix (hu1 hr) (ea_v 0) ea_int) (ea_frz (en_blt (c_sorted rfl) T.m_sorted (el_cons (ea_ix (hu1 hr) (ea_v 0) ea_int) el_nil)))))))))
def tt_is_house (m : Nat) : TSA := (seqA (ifA (orA (notA (valA (isiT "tuple" (varA 0)))) (orA (opT (eqT true) (bltA lenA (consL (varA 0) nilL)) (cstA (.int 2))) (orA (notA (valA (callF TT_are_keys (consL (opA ixA (varA 0) (cstA (.int 0))) nilL)))) (notA (valA (isiT "list" (opA ixA (varA 0) (cstA (.int 1))))))))) (retA (cstA (.bool false))) nextA)
    (retA (boolA (nilT false (frzA (lcN (ioT (iterL (opA ixA (varA 0) (cstA (.int 1))))) (nameG 1) (notA (valA (callF TT_is_room (consL (varA 1) nilL)))) (varA 1) [1]))))))
def TT_is_house : SpT := bodyT 1 (tt_is_house)
theorem kk_is_house {P : Program} {w : World} {K : PySem.W.Frag} {mg : Str → Option Value} {base : Heap} (T : Tx K mg w) : FnOk P w K mg base CX0 4 T.f_is_house T.d_is_house ["thing"] (spA 1 (TT_is_house)) :=
  okA T.F_is_house sc_is_house fun cdv A outer s H E B hr =>
    (ss_consA (sa_if (ET.of_w (ew_or (et_not (et_val (ea_isi (tn := "tuple") T.m_isinstance T.m_tuple (ea_v 0)))) (ew_or (et_cmp (o_ne hr.units) (ea_blt c_len T.m_len (el_cons (ea_v 0) el_nil)) ea_int) (ew_or (et_not (et_val (ea_callF (kk_are_keys T) (hr.mono (by decide)) T.g_are_keys T.F_are_keys.kp T.b_are_keys (el_cons (ea_ix (hu1 hr) (ea_v 0) ea_int) el_nil)))) (ew_or1 (et_not (et_val (ea_isi (tn := "list") T.m_isinstance T.m_list (ea_ix (hu1 hr) (ea_v 0) ea_int))))))))) (ss_oneA (sa_ret ea_bool)) ss_nilA)
      (ss_oneA (sa_ret (ea_eqNil hr.units (ea_frz (en_lcIf [("room", 1)] (lcok sc_is_house (by decide +kernel)) (IO.of (ia_list (ea_ix (hu1 hr) (ea_v 0) ea_int))) (fun _ _ _ _ _ => (gt_name 1 sc_is_house.nd)) (fun _ _ _ _ _ _ => (et_not (et_val (ea_callF (kk_is_room T) (hr.mono (by decide)) T.g_is_room T.F_is_room.kp T.b_is_room (el_cons (ea_v 1) el_nil))))) (fun _ _ _ _ _ _ => (ea_v 1))))))))
def tt_need_house (m : Nat) : TSA := (ifA (notA (valA (callF TT_is_house (consL (varA 0) nilL)))) neverA nextA)
def TT_need_house : SpT := bodyT 0 (tt_need_house)
theorem kk_need_house {P : Program} {w : World} {K : PySem.W.Frag} {mg : Str → Option Value} {base : Heap} (T : Tx K mg w) : FnOk P w K mg base CX0 5 T.f_need_house T.d_need_house ["thing"] (spA 1 (TT_need_house)) :=
  okA T.F_need_house sc_need_house fun cdv A outer s H E B hr =>
    (ss_oneA (sa_if (et_not (et_val (ea_callF (kk_is_house T) (hr.mono (by decide)) T.g_is_house T.F_is_house.kp T.b_is_house (el_cons (ea_v 0) el_nil)))) (ss_oneA sa_never) ss_nilA))
def tt_may_be_opened (m : Nat) : TSA := (retA (boolA (nilT false (frzA (lcN (iterO (varA 1)) (nameG 2) (opT ltT (getA2 (varA 0) (varA 2) (cstA (.int 0))) (mtL countA (varA 1) (consL (varA 2) nilL))) (varA 2) [2])))))
def TT_may_be_opened : SpT := bodyT 1 (tt_may_be_opened)
theorem kk_may_be_opened {P : Program} {w : World} {K : PySem.W.Frag} {mg : Str → Option Value} {base : Heap} (T : Tx K mg w) : FnOk P w K mg base CX0 1 T.f_may_be_opened T.d_may_be_opened ["hand", "locks"] (spA 2 (TT_may_be_opened)) :=
  okA T.F_may_be_opened sc_may_be_opened fun cdv A outer s H E B hr =>
    (ss_oneA (sa_ret (ea_eqNil hr.units (ea_frz (en_lcIf [("kind", 2)] (lcok sc_may_be_opened (by decide +kernel)) (io_list (ea_v 1)) (fun _ _ _ _ _ => (gt_name 2 sc_may_be_opened.nd)) (fun _ _ _ _ _ _ => (et_cmp o_lt (ea_get2 hr.units (ea_v 0) (ea_v 2) ea_int) (ea_mtL PySem.F.slot_list_count PySem.F.type_list_count m_count (ea_v 1) (el_cons (ea_v 2) el_nil)))) (fun _ _ _ _ _ _ => (ea_v 2)))))))
def tt_walked (m : Nat) : TSA := (seqA (dropA (callF TT_need_house (consL (varA 0) nilL)))
    (seqA (ifA (notA (valA (isiT "list" (varA 1)))) neverA nextA)
    (seqA (setA 2 (ownA newD))
    (seqA (forA m (iterL (opA ixA (varA 0) (cstA (.int 0)))) (nameG 3) (putS (opA addA (getA2 (varA 2) (varA 3) (cstA (.int 0))) (cstA (.int 1))) (varA 2) (varA 3)))
    (seqA (setA 4 (ownA newD))
    (seqA (forA m (iterE (varA 1)) (tup2G (nameG 5) (nameG 6)) (seqA (ifA (orA (notA (valA (isiT "int" (varA 6)))) (orA (valA (isiT "bool" (varA 6))) (orA (notA (chainT (fun i j => decide (i ≤ j)) (fun i j => decide (i < j)) (cstA (.int 0)) (varA 6) (bltA lenA (consL (opA ixA (varA 0) (cstA (.int 1))) nilL)))) (opT (inT false) (varA 6) (varA 4))))) neverA nextA)
    (seqA (asgA (opA ixA (opA ixA (varA 0) (cstA (.int 1))) (varA 6)) (tup2G (nameG 7) (nameG 8)))
    (seqA (ifA (notA (valA (callF TT_may_be_opened (consL (varA 2) (consL (varA 7) nilL))))) neverA nextA)
    (seqA (putS (cstA (.bool true)) (varA 4) (varA 6))
    (seqA (forA m (iterL (varA 7)) (nameG 3) (augS (fun i j => i - j) (varA 2) (varA 3) (cstA (.int 1))))
    (forA m (iterL (varA 8)) (nameG 3) (putS (opA addA (getA2 (varA 2) (varA 3) (cstA (.int 0))) (cstA (.int 1))) (varA 2) (varA 3)))))))))
    (retA (tupA (consL (fzA m 2) (consL (fzA m 4) nilL))))))))))
def TT_walked : SpT := bodyT 7 (tt_walked)
theorem kk_walked {P : Program} {w : World} {K : PySem.W.Frag} {mg : Str → Option Value} {base : Heap} (T : Tx K mg w) : FnOk P w K mg base CX0 6 T.f_walked T.d_walked ["house", "order"] (spA 2 (TT_walked)) :=
  okA T.F_walked sc_walked fun cdv A outer s H E B hr =>
    (ss_consA (sa_expr (ea_callF (kk_need_house T) (hr.mono (by decide)) T.g_need_house T.F_need_house.kp T.b_need_house (el_cons (ea_v 0) el_nil)))
      (ss_consA (sa_if (et_not (et_val (ea_isi (tn := "list") T.m_isinstance T.m_list (ea_v 1)))) (ss_oneA sa_never) ss_nilA)
      (ss_consA (sa_set 2 sc_walked.nd (ea_own en_dict))
      (ss_consA (sa_for PassesOwn.never rfl (ia_list (ea_ix (hu1 hr) (ea_v 0) ea_int)) (gt_name 3 sc_walked.nd) (fun _ _ => (ss_oneA (sa_put hr.units (ea_op o_add (ea_get2 hr.units (ea_v 2) (ea_v 3) ea_int) ea_int) (ea_v 2) (ea_v 3)))))
      (ss_consA (sa_set 4 sc_walked.nd (ea_own en_dict))
      (ss_consA (sa_for PassesOwn.never rfl (ia_enum T.m_enumerate (ea_v 1)) (gt_tup2 rfl (gt_name 5 sc_walked.nd) (gt_name 6 sc_walked.nd)) (fun _ _ => (ss_consA (sa_if (ET.of_w (ew_or (et_not (et_val (ea_isi (tn := "int") T.m_isinstance T.m_int (ea_v 6)))) (ew_or (et_val (ea_isi (tn := "bool") T.m_isinstance T.m_bool (ea_v 6))) (ew_or (et_not (et_chain op_le op_lt ea_int (ea_v 6) (ea_blt c_len T.m_len (el_cons (ea_ix (hu1 hr) (ea_v 0) ea_int) el_nil)))) (ew_or1 (et_cmp (o_in (hu1 hr)) (ea_v 6) (ea_v 4))))))) (ss_oneA sa_never) ss_nilA)
      (ss_consA (sa_asg (ea_ix (hu1 hr) (ea_ix (hu1 hr) (ea_v 0) ea_int) (ea_v 6)) (gt_tup2 rfl (gt_name 7 sc_walked.nd) (gt_name 8 sc_walked.nd)))
      (ss_consA (sa_if (et_not (et_val (ea_callF (kk_may_be_opened T) (hr.mono (by decide)) T.g_may_be_opened T.F_may_be_opened.kp T.b_may_be_opened (el_cons (ea_v 2) (el_cons (ea_v 7) el_nil))))) (ss_oneA sa_never) ss_nilA)
      (ss_consA (sa_put hr.units ea_bool (ea_v 4) (ea_v 6))
      (ss_consA (sa_for PassesOwn.never rfl (ia_list (ea_v 7)) (gt_name 3 sc_walked.nd) (fun _ _ => (ss_oneA (sa_dsub hr.units (ea_v 2) (ea_v 3) ea_int))))
      (ss_oneA (sa_for PassesOwn.never rfl (ia_list (ea_v 8)) (gt_name 3 sc_walked.nd) (fun _ _ => (ss_oneA (sa_put hr.units (ea_op o_add (ea_get2 hr.units (ea_v 2) (ea_v 3) ea_int) ea_int) (ea_v 2) (ea_v 3)))))))))))))
      (ss_oneA (sa_ret (ea_tup (el_cons (ea_fz 2) (el_cons (ea_fz 4) el_nil)))))))))))
def tt_keys_behind (m : Nat) : TSA := (seqA (asgA (callF TT_walked (consL (varA 0) (consL (varA 1) nilL))) (tup2G (nameG 2) (nameG 3)))
    (seqA (setA 4 (ownA (lstN nilL)))
    (seqA (forA m (iterL (frzA (bltN sortedBN (consL (varA 2) nilL)))) (nameG 5) (dropA (mtL extendA (varA 4) (consL (opA mulX (frzA (lstN (consL (varA 5) nilL))) (opA ixA (varA 2) (varA 5))) nilL))))
    (retA (varA 4)))))
def TT_keys_behind : SpT := bodyT 4 (tt_keys_behind)
theorem kk_keys_behind {P : Program} {w : World} {K : PySem.W.Frag} {mg : Str → Option Value} {base : Heap} (T : Tx K mg w) : FnOk P w K mg base CX0 7 T.f_keys_behind T.d_keys_behind ["house", "order"] (spA 2 (TT_keys_behind)) :=
  okA T.F_keys_behind sc_keys_behind fun cdv A outer s H E B hr =>
    (ss_consA (sa_asg (ea_callF (kk_walked T) (hr.mono (by decide)) T.g_walked T.F_walked.kp T.b_walked (el_cons (ea_v 0) (el_cons (ea_v 1) el_nil))) (gt_tup2 rfl (gt_name 2 sc_keys_behind.nd) (gt_name 3 sc_keys_behind.nd)))
      (ss_consA (sa_set 4 sc_keys_behind.nd (ea_own (en_lst el_nil)))
      (ss_consA (sa_for PassesOwn.never rfl (ia_list (ea_frz (en_blt (c_sortedB rfl) T.m_sorted (el_cons (ea_v 2) el_nil)))) (gt_name 5 sc_keys_behind.nd) (fun _ _ => (ss_oneA (sa_expr (ea_mtL PySem.F.slot_list_extend PySem.F.type_list_extend m_extend (ea_v 4) (el_cons (ea_op o_mulX (ea_frz (en_lst (el_cons (ea_v 5) el_nil))) (ea_ix (hu1 hr) (ea_v 2) (ea_v 5))) el_nil))))))
      (ss_oneA (sa_ret (ea_v 4))))))
def tt_next_rooms (m : Nat) : TSA := (seqA (asgA (callF TT_walked (consL (varA 0) (consL (varA 1) nilL))) (tup2G (nameG 2) (nameG 3)))
    (seqA (setA 4 (ownA (lstN nilL)))
    (seqA (forA m (iterE (opA ixA (varA 0) (cstA (.int 1)))) (tup2G (nameG 5) (tup2G (nameG 6) (nameG 7))) (ifA (andA (opT (inT true) (varA 5) (varA 3)) (valA (callF TT_may_be_opened (consL (varA 2) (consL (varA 6) nilL))))) (dropA (mtL appendA (varA 4) (consL (varA 5) nilL))) nextA))
    (retA (varA 4)))))
def TT_next_rooms : SpT := bodyT 6 (tt_next_rooms)
theorem kk_next_rooms {P : Program} {w : World} {K : PySem.W.Frag} {mg : Str → Option Value} {base : Heap} (T : Tx K mg w) : FnOk P w K mg base CX0 7 T.f_next_rooms T.d_next_rooms ["house", "order"] (spA 2 (TT_next_rooms)) :=
  okA T.F_next_rooms sc_next_rooms fun cdv A outer s H E B hr =>
    (ss_consA (sa_asg (ea_callF (kk_walked T) (hr.mono (by decide)) T.g_walked T.F_walked.kp T.b_walked (el_cons (ea_v 0) (el_cons (ea_v 1) el_nil))) (gt_tup2 rfl (gt_name 2 sc_next_rooms.nd) (gt_name 3 sc_next_rooms.nd)))
      (ss_consA (sa_set 4 sc_next_rooms.nd (ea_own (en_lst el_nil)))
      (ss_consA (sa_for PassesOwn.never rfl (ia_enum T.m_enumerate (ea_ix (hu1 hr) (ea_v 0) ea_int)) (gt_tup2 rfl (gt_name 5 sc_next_rooms.nd) (gt_tup2 rfl (gt_name 6 sc_next_rooms.nd) (gt_name 7 sc_next_rooms.nd))) (fun _ _ => (ss_oneA (sa_if (ET.of_w (ew_and (et_cmp (o_notIn (hu1 hr)) (ea_v 5) (ea_v 3)) (ew_and1 (et_val (ea_callF (kk_may_be_opened T) (hr.mono (by decide)) T.g_may_be_opened T.F_may_be_opened.kp T.b_may_be_opened (el_cons (ea_v 2) (el_cons (ea_v 6) el_nil))))))) (ss_oneA (sa_expr (ea_mtL PySem.F.slot_list_append PySem.F.type_list_append m_append (ea_v 4) (el_cons (ea_v 5) el_nil)))) ss_nilA))))
      (ss_oneA (sa_ret (ea_v 4))))))
def tt_all_of (m : Nat) : TSA := (retA (andV (boolA (opT (eqT true) (varA 0) (cstA (.str "")))) (boolA (opT (eqT false) (bltA lenA (consL (frzA (lcN (ioT (iterTx (varA 0))) (nameG 2) (opT (inT true) (varA 2) (varA 1)) (varA 2) [2])) nilL)) (cstA (.int 0))))))
def TT_all_of : SpT := bodyT 1 (tt_all_of)
theorem kk_all_of {P : Program} {w : World} {K : PySem.W.Frag} {mg : Str → Option Value} {base : Heap} (T : Tx K mg w) : FnOk P w K mg base CX0 1 T.f_all_of T.d_all_of ["word", "signs"] (spA 2 (TT_all_of)) :=
  okA T.F_all_of sc_all_of fun cdv A outer s H E B hr =>
    (ss_oneA (sa_ret (ea_and (ea_cmp (o_ne hr.units) (ea_v 0) ea_str) (ea_one (ea_cmp (o_eq hr.units) (ea_blt c_len T.m_len (el_cons (ea_frz (en_lcIf [("sign", 2)] (lcok sc_all_of (by decide +kernel)) (IO.of (ia_str (ea_v 0))) (fun _ _ _ _ _ => (gt_name 2 sc_all_of.nd)) (fun _ _ _ _ _ _ => (et_cmp (o_notIn (hu1 hr)) (ea_v 2) (ea_v 1))) (fun _ _ _ _ _ _ => (ea_v 2)))) el_nil)) ea_int)))))
def tt_is_kind_rows (m : Nat) : TSA := (retA (andV (callF TT_all_of (consL (varA 0) (consL (cstA (.str "abcdefghijklmnopqrstuvwxyz")) nilL))) (boolA (opT leT (bltA lenA (consL (varA 0) nilL)) (cstA (.int 4))))))
def TT_is_kind_rows : SpT := bodyT 0 (tt_is_kind_rows)
theorem kk_is_kind_rows {P : Program} {w : World} {K : PySem.W.Frag} {mg : Str → Option Value} {base : Heap} (T : Tx K mg w) : FnOk P w K mg base CX0 2 T.f_is_kind_rows T.d_is_kind_rows ["word"] (spA 1 (TT_is_kind_rows)) :=
  okA T.F_is_kind_rows sc_is_kind_rows fun cdv A outer s H E B hr =>
    (ss_oneA (sa_ret (ea_and (ea_callF (kk_all_of T) (hr.mono (by decide)) T.g_all_of T.F_all_of.kp T.b_all_of (el_cons (ea_v 0) (el_cons (ea_globS T.c_LETTERS_rows) el_nil))) (ea_one (ea_cmp o_le (ea_blt c_len T.m_len (el_cons (ea_v 0) el_nil)) (ea_globI T.c_MOST_LETTERS))))))
def tt_is_number (m : Nat) : TSA := (retA (andV (callF TT_all_of (consL (varA 0) (consL (cstA (.str "0123456789")) nilL))) (andV (boolA (opT leT (bltA lenA (consL (varA 0) nilL)) (cstA (.int 9)))) (orV (boolA (opT (eqT false) (bltA lenA (consL (varA 0) nilL)) (cstA (.int 1)))) (boolA (opT (eqT true) (opA ixA (varA 0) (cstA (.int 0))) (cstA (.str "0"))))))))
def TT_is_number : SpT := bodyT 0 (tt_is_number)
theorem kk_is_number {P : Program} {w : World} {K : PySem.W.Frag} {mg : Str → Option Value} {base : Heap} (T : Tx K mg w) : FnOk P w K mg base CX0 2 T.f_is_number T.d_is_number ["word"] (spA 1 (TT_is_number)) :=
  okA T.F_is_number sc_is_number fun cdv A outer s H E B hr =>
    (ss_oneA (sa_ret (ea_and (ea_callF (kk_all_of T) (hr.mono (by decide)) T.g_all_of T.F_all_of.kp T.b_all_of (el_cons (ea_v 0) (el_cons (ea_globS T.c_FIGURES) el_nil))) (ea_and (ea_cmp o_le (ea_blt c_len T.m_len (el_cons (ea_v 0) el_nil)) ea_int) (ea_one (ea_or (ea_cmp (o_eq hr.units) (ea_blt c_len T.m_len (el_cons (ea_v 0) el_nil)) ea_int) (ea_one (ea_cmp (o_ne hr.units) (ea_ix (hu1 hr) (ea_v 0) ea_int) ea_str))))))))
def tt_keys_asked (m : Nat) : TSA := (seqA (ifA (opT (eqT false) (varA 0) (frzA (lstN (consL (cstA (.str "-")) nilL)))) (retA (ownA (lstN nilL))) nextA)
    (seqA (ifA (orA (nilT false (varA 0)) (nilT true (frzA (lcN (iterO (varA 0)) (nameG 1) (notA (valA (callF TT_is_kind_rows (consL (varA 1) nilL)))) (varA 1) [1])))) neverA nextA)
    (retA (ownA (bltN listN (consL (varA 0) nilL))))))
def TT_keys_asked : SpT := bodyT 1 (tt_keys_asked)
theorem kk_keys_asked {P : Program} {w : World} {K : PySem.W.Frag} {mg : Str → Option Value} {base : Heap} (T : Tx K mg w) : FnOk P w K mg base CX0 3 T.f_keys_asked T.d_keys_asked ["words"] (spA 1 (TT_keys_asked)) :=
  okA T.F_keys_asked sc_keys_asked fun cdv A outer s H E B hr =>
    (ss_consA (sa_if (et_cmp (o_eq hr.units) (ea_v 0) (ea_frz (en_lst (el_cons ea_str el_nil)))) (ss_oneA (sa_ret (ea_own (en_lst el_nil)))) ss_nilA)
      (ss_consA (sa_if (ET.of_w (ew_or (et_eqNil hr.units (ea_v 0)) (ew_or1 (et_neNil hr.units (ea_frz (en_lcIf [("word", 1)] (lcok sc_keys_asked (by decide +kernel)) (io_list (ea_v 0)) (fun _ _ _ _ _ => (gt_name 1 sc_keys_asked.nd)) (fun _ _ _ _ _ _ => (et_not (et_val (ea_callF (kk_is_kind_rows T) (hr.mono (by decide)) T.g_is_kind_rows T.F_is_kind_rows.kp T.b_is_kind_rows (el_cons (ea_v 1) el_nil))))) (fun _ _ _ _ _ _ => (ea_v 1)))))))) (ss_oneA sa_never) ss_nilA)
      (ss_oneA (sa_ret (ea_own (en_bty c_list T.m_list (el_cons (ea_v 0) el_nil)))))))
def tt_locks_asked (m : Nat) : TSA := (seqA (setA 1 (frzA (splitN (varA 0) (cstA (.str "+")))))
    (seqA (ifA (orA (opT gtT (bltA lenA (consL (varA 1) nilL)) (cstA (.int 4))) (nilT true (frzA (lcN (iterO (varA 1)) (nameG 2) (notA (valA (callF TT_is_kind_rows (consL (varA 2) nilL)))) (varA 2) [2])))) neverA nextA)
    (retA (ownA (bltN sortedN (consL (varA 1) nilL))))))
def TT_locks_asked : SpT := bodyT 2 (tt_locks_asked)
theorem kk_locks_asked {P : Program} {w : World} {K : PySem.W.Frag} {mg : Str → Option Value} {base : Heap} (T : Tx K mg w) : FnOk P w K mg base CX0 3 T.f_locks_asked T.d_locks_asked ["word"] (spA 1 (TT_locks_asked)) :=
  okA T.F_locks_asked sc_locks_asked fun cdv A outer s H E B hr =>
    (ss_consA (sa_set 1 sc_locks_asked.nd (ea_frz (en_split (ea_v 0) ea_str)))
      (ss_consA (sa_if (ET.of_w (ew_or (et_cmp o_gt (ea_blt c_len T.m_len (el_cons (ea_v 1) el_nil)) (ea_globI T.c_MOST_LOCKS_rows)) (ew_or1 (et_neNil hr.units (ea_frz (en_lcIf [("one", 2)] (lcok sc_locks_asked (by decide +kernel)) (io_list (ea_v 1)) (fun _ _ _ _ _ => (gt_name 2 sc_locks_asked.nd)) (fun _ _ _ _ _ _ => (et_not (et_val (ea_callF (kk_is_kind_rows T) (hr.mono (by decide)) T.g_is_kind_rows T.F_is_kind_rows.kp T.b_is_kind_rows (el_cons (ea_v 2) el_nil))))) (fun _ _ _ _ _ _ => (ea_v 2)))))))) (ss_oneA sa_never) ss_nilA)
      (ss_oneA (sa_ret (ea_own (en_blt (c_sorted rfl) T.m_sorted (el_cons (ea_v 1) el_nil)))))))
def tt_joined_words (m : Nat) : TSA := (seqA (ifA (nilT false (varA 0)) (retA (cstA (.str "none"))) nextA)
    (retA (joinA (cstA (.str " ")) (frzA (lcN (iterO (varA 0)) (nameG 1) yesA (bltA strA (consL (varA 1) nilL)) [1])))))
def TT_joined_words : SpT := bodyT 1 (tt_joined_words)
theorem kk_joined_words {P : Program} {w : World} {K : PySem.W.Frag} {mg : Str → Option Value} {base : Heap} (T : Tx K mg w) : FnOk P w K mg base CX0 1 T.f_joined_words T.d_joined_words ["things"] (spA 1 (TT_joined_words)) :=
  okA T.F_joined_words sc_joined_words fun cdv A outer s H E B hr =>
    (ss_consA (sa_if (et_eqNil hr.units (ea_v 0)) (ss_oneA (sa_ret ea_str)) ss_nilA)
      (ss_oneA (sa_ret (ea_join ea_str (ea_frz (en_lc [("one", 1)] (lcok sc_joined_words (by decide +kernel)) (io_list (ea_v 0)) (fun _ _ _ _ _ => (gt_name 1 sc_joined_words.nd)) (fun _ _ _ _ _ _ => (ea_bty c_str T.m_str (el_cons (ea_v 1) el_nil)))))))))
def tt_words_asked (m : Nat) : TSA := (seqA (ifA (notA (valA (isiT "str" (varA 0)))) neverA nextA)
    (seqA (setA 1 (frzA (splitN (varA 0) (cstA (.str " ")))))
    (seqA (ifA (opT (eqT false) (opA ixA (varA 1) (cstA (.int 0))) (cstA (.str "keys"))) (retA (ownA (lstN (consL (cstA (.str "keys")) (consL (callF TT_keys_asked (consL (slLo (varA 1) (cstA (.int 1))) nilL)) nilL))))) nextA)
    (seqA (ifA (andA (opT (eqT false) (opA ixA (varA 1) (cstA (.int 0))) (cstA (.str "room"))) (opT gtT (bltA lenA (consL (varA 1) nilL)) (cstA (.int 1)))) (retA (ownA (lstN (consL (cstA (.str "room")) (consL (callF TT_locks_asked (consL (opA ixA (varA 1) (cstA (.int 1))) nilL)) (consL (callF TT_keys_asked (consL (slLo (varA 1) (cstA (.int 2))) nilL)) nilL)))))) nextA)
    (seqA (ifA (orA (kdInT true [("worth", 2), ("open", 1), ("nth", 1), ("back", 0), ("new", 0), ("hand", 0), ("next", 0), ("gone", 0), ("all", 0), ("first", 0), ("buy", 0), ("orders", 0), ("most", 0), ("best", 0), ("show", 0), ("rooms", 0)] (opA ixA (varA 1) (cstA (.int 0)))) (opT (eqT true) (bltA lenA (consL (varA 1) nilL)) (opA addA (kdIxA [("worth", 2), ("open", 1), ("nth", 1), ("back", 0), ("new", 0), ("hand", 0), ("next", 0), ("gone", 0), ("all", 0), ("first", 0), ("buy", 0), ("orders", 0), ("most", 0), ("best", 0), ("show", 0), ("rooms", 0)] (opA ixA (varA 1) (cstA (.int 0)))) (cstA (.int 1))))) neverA nextA)
    (seqA (ifA (nilT true (frzA (lcN (ioT (iterL (slLo (varA 1) (cstA (.int 1))))) (nameG 2) (notA (valA (callF TT_is_number (consL (varA 2) nilL)))) (varA 2) [2]))) neverA nextA)
    (retA (opA addA (slHi (varA 1) (cstA (.int 1))) (frzA (lcN (ioT (iterL (slLo (varA 1) (cstA (.int 1))))) (nameG 2) yesA (bltA intSA (consL (varA 2) nilL)) [2]))))))))))
def TT_words_asked : SpT := bodyT 2 (tt_words_asked)
theorem kk_words_asked {P : Program} {w : World} {K : PySem.W.Frag} {mg : Str → Option Value} {base : Heap} (T : Tx K mg w) : FnOk P w K mg base CX0 4 T.f_words_asked T.d_words_asked ["row"] (spA 1 (TT_words_asked)) :=
  okA T.F_words_asked sc_words_asked fun cdv A outer s H E B hr =>
    (ss_consA (sa_if (et_not (et_val (ea_isi (tn := "str") T.m_isinstance T.m_str (ea_v 0)))) (ss_oneA sa_never) ss_nilA)
      (ss_consA (sa_set 1 sc_words_asked.nd (ea_frz (en_split (ea_v 0) ea_str)))
      (ss_consA (sa_if (et_cmp (o_eq hr.units) (ea_ix (hu1 hr) (ea_v 1) ea_int) ea_str) (ss_oneA (sa_ret (ea_own (en_lst (el_cons ea_str (el_cons (ea_callF (kk_keys_asked T) (hr.mono (by decide)) T.g_keys_asked T.F_keys_asked.kp T.b_keys_asked (el_cons (ea_slLo (ea_v 1) ea_int) el_nil)) el_nil)))))) ss_nilA)
      (ss_consA (sa_if (ET.of_w (ew_and (et_cmp (o_eq hr.units) (ea_ix (hu1 hr) (ea_v 1) ea_int) ea_str) (ew_and1 (et_cmp o_gt (ea_blt c_len T.m_len (el_cons (ea_v 1) el_nil)) ea_int)))) (ss_oneA (sa_ret (ea_own (en_lst (el_cons ea_str (el_cons (ea_callF (kk_locks_asked T) (hr.mono (by decide)) T.g_locks_asked T.F_locks_asked.kp T.b_locks_asked (el_cons (ea_ix (hu1 hr) (ea_v 1) ea_int) el_nil)) (el_cons (ea_callF (kk_keys_asked T) (hr.mono (by decide)) T.g_keys_asked T.F_keys_asked.kp T.b_keys_asked (el_cons (ea_slLo (ea_v 1) ea_int) el_nil)) el_nil))))))) ss_nilA)
      (ss_consA (sa_if (ET.of_w (ew_or (et_notInKD T.c_NUMBERS (ea_ix (hu1 hr) (ea_v 1) ea_int)) (ew_or1 (et_cmp (o_ne hr.units) (ea_blt c_len T.m_len (el_cons (ea_v 1) el_nil)) (ea_op o_add (ea_ixKD T.c_NUMBERS (ea_ix (hu1 hr) (ea_v 1) ea_int)) ea_int))))) (ss_oneA sa_never) ss_nilA)
      (ss_consA (sa_if (et_neNil hr.units (ea_frz (en_lcIf [("word", 2)] (lcok sc_words_asked (by decide +kernel)) (IO.of (ia_list (ea_slLo (ea_v 1) ea_int))) (fun _ _ _ _ _ => (gt_name 2 sc_words_asked.nd)) (fun _ _ _ _ _ _ => (et_not (et_val (ea_callF (kk_is_number T) (hr.mono (by decide)) T.g_is_number T.F_is_number.kp T.b_is_number (el_cons (ea_v 2) el_nil))))) (fun _ _ _ _ _ _ => (ea_v 2))))) (ss_oneA sa_never) ss_nilA)
      (ss_oneA (sa_ret (ea_op o_add (ea_slHi (ea_v 1) ea_int) (ea_frz (en_lc [("word", 2)] (lcok sc_words_asked (by decide +kernel)) (IO.of (ia_list (ea_slLo (ea_v 1) ea_int))) (fun _ _ _ _ _ => (gt_name 2 sc_words_asked.nd)) (fun _ _ _ _ _ _ => (ea_bty c_intS T.m_int (el_cons (ea_v 2) el_nil))))))))))))))
def tt_show_keys (m : Nat) : TSA := (seqA (ifA (nilT false (varA 0)) (retA (cstA (.str "-"))) nextA)
    (retA (joinA (cstA (.str " ")) (frzA (bltN sortedN (consL (varA 0) nilL))))))
def TT_show_keys : SpT := bodyT 0 (tt_show_keys)
theorem kk_show_keys {P : Program} {w : World} {K : PySem.W.Frag} {mg : Str → Option Value} {base : Heap} (T : Tx K mg w) : FnOk P w K mg base CX0 1 T.f_show_keys T.d_show_keys ["keys"] (spA 1 (TT_show_keys)) :=
  okA T.F_show_keys sc_show_keys fun cdv A outer s H E B hr =>
    (ss_consA (sa_if (et_eqNil hr.units (ea_v 0)) (ss_oneA (sa_ret ea_str)) ss_nilA)
      (ss_oneA (sa_ret (ea_join ea_str (ea_frz (en_blt (c_sorted rfl) T.m_sorted (el_cons (ea_v 0) el_nil)))))))
def tt_show_room (m : Nat) : TSA := (retA (opA addA (opA addA (joinA (cstA (.str "+")) (opA ixA (varA 0) (cstA (.int 0)))) (cstA (.str ": "))) (callF TT_show_keys (consL (opA ixA (varA 0) (cstA (.int 1))) nilL))))
def TT_show_room : SpT := bodyT 0 (tt_show_room)
theorem kk_show_room {P : Program} {w : World} {K : PySem.W.Frag} {mg : Str → Option Value} {base : Heap} (T : Tx K mg w) : FnOk P w K mg base CX0 2 T.f_show_room T.d_show_room ["room"] (spA 1 (TT_show_room)) :=
  okA T.F_show_room sc_show_room fun cdv A outer s H E B hr =>
    (ss_oneA (sa_ret (ea_op o_add (ea_op o_add (ea_join ea_str (ea_ix (hu1 hr) (ea_v 0) ea_int)) ea_str) (ea_callF (kk_show_keys T) (hr.mono (by decide)) T.g_show_keys T.F_show_keys.kp T.b_show_keys (el_cons (ea_ix (hu1 hr) (ea_v 0) ea_int) el_nil)))))
def tt_show_house (m : Nat) : TSA := (seqA (ifA (notA (valA (callF TT_is_house (consL (varA 0) nilL)))) neverA nextA)
    (retA (joinA (cstA (.str "\n")) (opA addA (frzA (lstN (consL (callF TT_show_keys (consL (opA ixA (varA 0) (cstA (.int 0))) nilL)) nilL))) (frzA (lcN (ioT (iterL (opA ixA (varA 0) (cstA (.int 1))))) (nameG 1) yesA (callF TT_show_room (consL (varA 1) nilL)) [1]))))))
def TT_show_house : SpT := bodyT 1 (tt_show_house)
theorem kk_show_house {P : Program} {w : World} {K : PySem.W.Frag} {mg : Str → Option Value} {base : Heap} (T : Tx K mg w) : FnOk P w K mg base CX0 5 T.f_show_house T.d_show_house ["house"] (spA 1 (TT_show_house)) :=
  okA T.F_show_house sc_show_house fun cdv A outer s H E B hr =>
    (ss_consA (sa_if (et_not (et_val (ea_callF (kk_is_house T) (hr.mono (by decide)) T.g_is_house T.F_is_house.kp T.b_is_house (el_cons (ea_v 0) el_nil)))) (ss_oneA sa_never) ss_nilA)
      (ss_oneA (sa_ret (ea_join ea_str (ea_op o_add (ea_frz (en_lst (el_cons (ea_callF (kk_show_keys T) (hr.mono (by decide)) T.g_show_keys T.F_show_keys.kp T.b_show_keys (el_cons (ea_ix (hu1 hr) (ea_v 0) ea_int) el_nil)) el_nil))) (ea_frz (en_lc [("room", 1)] (lcok sc_show_house (by decide +kernel)) (IO.of (ia_list (ea_ix (hu1 hr) (ea_v 0) ea_int))) (fun _ _ _ _ _ => (gt_name 1 sc_show_house.nd)) (fun _ _ _ _ _ _ => (ea_callF (kk_show_room T) (hr.mono (by decide)) T.g_show_room T.F_show_room.kp T.b_show_room (el_cons (ea_v 1) el_nil))))))))))
def tt_Desk_begin_anew (O : OT) (m : Nat) : TSA := (seqA (setFA O.desk "first_keys" (frzA (lstN nilL)) (varA 0))
    (seqA (setFA O.desk "rooms_here" (ownA (lstN nilL)) (varA 0))
    (seqA (setFA O.desk "worths" (ownA (lstN nilL)) (varA 0))
    (setFA O.desk "gone_here" (frzA (lstN nilL)) (varA 0)))))
def TT_Desk_begin_anew (O : OT) : SpT := bodyT 0 (tt_Desk_begin_anew O)
theorem kk_Desk_begin_anew {P : Program} {w : World} {K : PySem.W.Frag} {mg : Str → Option Value} {base : Heap} (T : Tx K mg w) : FnOk P w K mg base CX0 1 T.f_Desk_begin_anew T.d_Desk_begin_anew ["self"] (spA 1 (TT_Desk_begin_anew T.O)) :=
  okA T.F_Desk_begin_anew sc_Desk_begin_anew fun cdv A outer s H E B hr =>
    (ss_consA (sa_setF T.c_Desk T.na_Desk_first_keys (ea_frz (en_lst el_nil)) (ea_v 0))
      (ss_consA (sa_setF T.c_Desk T.na_Desk_rooms_here (ea_own (en_lst el_nil)) (ea_v 0))
      (ss_consA (sa_setF T.c_Desk T.na_Desk_worths (ea_own (en_lst el_nil)) (ea_v 0))
      (ss_oneA (sa_setF T.c_Desk T.na_Desk_gone_here (ea_frz (en_lst el_nil)) (ea_v 0))))))
def tt_Desk_init (O : OT) (m : Nat) : TSA := (dropA (methF O.desk "begin_anew" (TT_Desk_begin_anew O) (varA 0) nilL))
def TT_Desk_init (O : OT) : SpT := bodyT 0 (tt_Desk_init O)
theorem kk_Desk_init {P : Program} {w : World} {K : PySem.W.Frag} {mg : Str → Option Value} {base : Heap} (T : Tx K mg w) : FnOk P w K mg base CX0 2 T.f_Desk_init T.d_Desk_init ["self"] (spA 1 (TT_Desk_init T.O)) :=
  okA T.F_Desk_init sc_Desk_init fun cdv A outer s H E B hr =>
    (ss_oneA (sa_expr (ea_methF0 T.c_Desk T.me_Desk_begin_anew (kk_Desk_begin_anew T) (hr.mono (by decide)) T.b_Desk_begin_anew (ea_v 0))))
def tt_Desk_house (O : OT) (m : Nat) : TSA := (retA (tupA (consL (frzA (bltN listN (consL (attrA O.desk "first_keys" (varA 0)) nilL))) (consL (frzA (bltN listN (consL (attrA O.desk "rooms_here" (varA 0)) nilL))) nilL))))
def TT_Desk_house (O : OT) : SpT := bodyT 0 (tt_Desk_house O)
theorem kk_Desk_house {P : Program} {w : World} {K : PySem.W.Frag} {mg : Str → Option Value} {base : Heap} (T : Tx K mg w) : FnOk P w K mg base CX0 1 T.f_Desk_house T.d_Desk_house ["self"] (spA 1 (TT_Desk_house T.O)) :=
  okA T.F_Desk_house sc_Desk_house fun cdv A outer s H E B hr =>
    (ss_oneA (sa_ret (ea_tup (el_cons (ea_frz (en_bty c_list T.m_list (el_cons (ea_attr T.c_Desk T.na_Desk_first_keys (ea_v 0)) el_nil))) (el_cons (ea_frz (en_bty c_list T.m_list (el_cons (ea_attr T.c_Desk T.na_Desk_rooms_here (ea_v 0)) el_nil))) el_nil)))))
def tt_Desk_put_room (E : ExT) (O : OT) (W : PyData → AS → Prop) (m : Nat) : TSA := (seqA (ifA (opT (eqT false) (bltA lenA (consL (attrA O.desk "rooms_here" (varA 0)) nilL)) (cstA (.int 12))) (raiseA W (E.c .many)) nextA)
    (seqA (dropA (mtL appendT (attrA O.desk "rooms_here" (varA 0)) (consL (tupA (consL (varA 1) (consL (varA 2) nilL))) nilL)))
    (seqA (dropA (mtL appendT (attrA O.desk "worths" (varA 0)) (consL (cstA (.int 0)) nilL)))
    (setFA O.desk "gone_here" (frzA (lstN nilL)) (varA 0)))))
def TT_Desk_put_room (E : ExT) (O : OT) : SpTX := bodyTX 0 (tt_Desk_put_room E O)
theorem kk_Desk_put_room {P : Program} {w : World} {K : PySem.W.Frag} {mg : Str → Option Value} {base : Heap} (T : Tx K mg w) : FnOk P w K mg base (L2.CX P w) 1 T.f_Desk_put_room T.d_Desk_put_room ["self", "locks", "keys"] (spAX 3 (TT_Desk_put_room T.E T.O)) :=
  okAX T.F_Desk_put_room sc_Desk_put_room fun cdv A outer s H Ex B W hr tk hpo =>
    (ss_consA (sa_if (et_cmp (o_eq hr.units) (ea_blt c_len T.m_len (el_cons (ea_attr T.c_Desk T.na_Desk_rooms_here (ea_v 0)) el_nil)) (ea_globI T.c_MOST_ROOMS_desk)) (ss_oneA (sa_raise rfl tk PySem.F.excBase_ValueError T.q_TooMany T.x_TooMany.g T.x_TooMany.k T.x_TooMany.raises)) ss_nilA)
      (ss_consA (sa_expr (ea_mtL PySem.F.slot_list_append PySem.F.type_list_append m_appendT (ea_attr T.c_Desk T.na_Desk_rooms_here (ea_v 0)) (el_cons (ea_tup (el_cons (ea_v 1) (el_cons (ea_v 2) el_nil))) el_nil)))
      (ss_consA (sa_expr (ea_mtL PySem.F.slot_list_append PySem.F.type_list_append m_appendT (ea_attr T.c_Desk T.na_Desk_worths (ea_v 0)) (el_cons ea_int el_nil)))
      (ss_oneA (sa_setF T.c_Desk T.na_Desk_gone_here (ea_frz (en_lst el_nil)) (ea_v 0))))))
def tt_Desk_put_room_n (O : OT) (m : Nat) : TSA := (seqA (ifA (opT (eqT false) (bltA lenA (consL (attrA O.desk "rooms_here" (varA 0)) nilL)) (cstA (.int 12))) neverA nextA)
    (seqA (dropA (mtL appendT (attrA O.desk "rooms_here" (varA 0)) (consL (tupA (consL (varA 1) (consL (varA 2) nilL))) nilL)))
    (seqA (dropA (mtL appendT (attrA O.desk "worths" (varA 0)) (consL (cstA (.int 0)) nilL)))
    (setFA O.desk "gone_here" (frzA (lstN nilL)) (varA 0)))))
def TT_Desk_put_room_n (O : OT) : SpT := bodyT 0 (tt_Desk_put_room_n O)
theorem kk_Desk_put_room_n {P : Program} {w : World} {K : PySem.W.Frag} {mg : Str → Option Value} {base : Heap} (T : Tx K mg w) : FnOk P w K mg base CX0 1 T.f_Desk_put_room T.d_Desk_put_room ["self", "locks", "keys"] (spA 3 (TT_Desk_put_room_n T.O)) :=
  okA T.F_Desk_put_room sc_Desk_put_room fun cdv A outer s H E B hr =>
    (ss_consA (sa_if (et_cmp (o_eq hr.units) (ea_blt c_len T.m_len (el_cons (ea_attr T.c_Desk T.na_Desk_rooms_here (ea_v 0)) el_nil)) (ea_globI T.c_MOST_ROOMS_desk)) (ss_oneA sa_never) ss_nilA)
      (ss_consA (sa_expr (ea_mtL PySem.F.slot_list_append PySem.F.type_list_append m_appendT (ea_attr T.c_Desk T.na_Desk_rooms_here (ea_v 0)) (el_cons (ea_tup (el_cons (ea_v 1) (el_cons (ea_v 2) el_nil))) el_nil)))
      (ss_consA (sa_expr (ea_mtL PySem.F.slot_list_append PySem.F.type_list_append m_appendT (ea_attr T.c_Desk T.na_Desk_worths (ea_v 0)) (el_cons ea_int el_nil)))
      (ss_oneA (sa_setF T.c_Desk T.na_Desk_gone_here (ea_frz (en_lst el_nil)) (ea_v 0))))))
def tt_Desk_changed (E : ExT) (O : OT) (W : PyData → AS → Prop) (m : Nat) : TSA := (seqA (ifA (opT (eqT false) (opA ixA (varA 1) (cstA (.int 0))) (cstA (.str "keys"))) (seqA (setFA O.desk "first_keys" (opA ixA (varA 1) (cstA (.int 1))) (varA 0))
    (setFA O.desk "gone_here" (frzA (lstN nilL)) (varA 0))) (ifA (opT (eqT false) (opA ixA (varA 1) (cstA (.int 0))) (cstA (.str "room"))) (dropA (methXF O.desk "put_room" (TT_Desk_put_room E O) W (varA 0) (consL (opA ixA (varA 1) (cstA (.int 1))) (consL (opA ixA (varA 1) (cstA (.int 2))) nilL)))) (ifA (opT (eqT false) (opA ixA (varA 1) (cstA (.int 0))) (cstA (.str "worth"))) (seqA (ifA (opT geT (opA ixA (varA 1) (cstA (.int 1))) (bltA lenA (consL (attrA O.desk "rooms_here" (varA 0)) nilL))) (raiseStepA W (E.c .step) (cstA .none)) nextA)
    (putL (opA ixA (varA 1) (cstA (.int 2))) (attrA O.desk "worths" (varA 0)) (opA ixA (varA 1) (cstA (.int 1))))) (ifA (opT (eqT false) (opA ixA (varA 1) (cstA (.int 0))) (cstA (.str "open"))) (seqA neverA
    (seqA neverA
    neverA)) (ifA (opT (eqT false) (opA ixA (varA 1) (cstA (.int 0))) (cstA (.str "back"))) (seqA neverA
    neverA) (ifA (opT (eqT false) (opA ixA (varA 1) (cstA (.int 0))) (cstA (.str "new"))) (dropA (methF O.desk "begin_anew" (TT_Desk_begin_anew O) (varA 0) nilL)) (retA (cstA (.bool false)))))))))
    (retA (cstA (.bool true))))
def TT_Desk_changed (E : ExT) (O : OT) : SpTX := bodyTX 1 (tt_Desk_changed E O)
theorem kk_Desk_changed {P : Program} {w : World} {K : PySem.W.Frag} {mg : Str → Option Value} {base : Heap} (T : Tx K mg w) : FnOk P w K mg base (L2.CX P w) 3 T.f_Desk_changed T.d_Desk_changed ["self", "words"] (spAX 2 (TT_Desk_changed T.E T.O)) :=
  okAX T.F_Desk_changed sc_Desk_changed fun cdv A outer s H Ex B W hr tk hpo =>
    (ss_consA (sa_if (et_cmp (o_eq hr.units) (ea_ix (hu1 hr) (ea_v 1) ea_int) ea_str) (ss_consA (sa_setF T.c_Desk T.na_Desk_first_keys (ea_ix (hu1 hr) (ea_v 1) ea_int) (ea_v 0))
      (ss_oneA (sa_setF T.c_Desk T.na_Desk_gone_here (ea_frz (en_lst el_nil)) (ea_v 0)))) (ss_oneA (sa_if (et_cmp (o_eq hr.units) (ea_ix (hu1 hr) (ea_v 1) ea_int) ea_str) (ss_oneA (sa_expr (ea_methXF T.c_Desk T.me_Desk_put_room (kk_Desk_put_room T) (hr.mono (by decide)) T.b_Desk_put_room tk (ea_v 0) (el_cons (ea_ix (hu1 hr) (ea_v 1) ea_int) (el_cons (ea_ix (hu1 hr) (ea_v 1) ea_int) el_nil))))) (ss_oneA (sa_if (et_cmp (o_eq hr.units) (ea_ix (hu1 hr) (ea_v 1) ea_int) ea_str) (ss_consA (sa_if (et_cmp o_ge (ea_ix (hu1 hr) (ea_v 1) ea_int) (ea_blt c_len T.m_len (el_cons (ea_attr T.c_Desk T.na_Desk_rooms_here (ea_v 0)) el_nil))) (ss_oneA (sa_raiseStep rfl tk T.st (kk_init T) T.b_init (hr.mono (by decide)) ea_none)) ss_nilA)
      (ss_oneA (sa_putL (ea_ix (hu1 hr) (ea_v 1) ea_int) (ea_attr T.c_Desk T.na_Desk_worths (ea_v 0)) (ea_ix (hu1 hr) (ea_v 1) ea_int)))) (ss_oneA (sa_if (et_cmp (o_eq hr.units) (ea_ix (hu1 hr) (ea_v 1) ea_int) ea_str) (ss_consA sa_never
      (ss_consA sa_never
      (ss_oneA sa_never))) (ss_oneA (sa_if (et_cmp (o_eq hr.units) (ea_ix (hu1 hr) (ea_v 1) ea_int) ea_str) (ss_consA sa_never
      (ss_oneA sa_never)) (ss_oneA (sa_if (et_cmp (o_eq hr.units) (ea_ix (hu1 hr) (ea_v 1) ea_int) ea_str) (ss_oneA (sa_expr (ea_methF0 T.c_Desk T.me_Desk_begin_anew (kk_Desk_begin_anew T) (hr.mono (by decide)) T.b_Desk_begin_anew (ea_v 0)))) (ss_oneA (sa_ret ea_bool)))))))))))))
      (ss_oneA (sa_ret ea_bool)))
def tt_Desk_changed_n (O : OT) (m : Nat) : TSA := (seqA (ifA (opT (eqT false) (opA ixA (varA 1) (cstA (.int 0))) (cstA (.str "keys"))) (seqA (setFA O.desk "first_keys" (opA ixA (varA 1) (cstA (.int 1))) (varA 0))
    (setFA O.desk "gone_here" (frzA (lstN nilL)) (varA 0))) (ifA (opT (eqT false) (opA ixA (varA 1) (cstA (.int 0))) (cstA (.str "room"))) (dropA (methF O.desk "put_room" (TT_Desk_put_room_n O) (varA 0) (consL (opA ixA (varA 1) (cstA (.int 1))) (consL (opA ixA (varA 1) (cstA (.int 2))) nilL)))) (ifA (opT (eqT false) (opA ixA (varA 1) (cstA (.int 0))) (cstA (.str "worth"))) (seqA (ifA (opT geT (opA ixA (varA 1) (cstA (.int 1))) (bltA lenA (consL (attrA O.desk "rooms_here" (varA 0)) nilL))) neverA nextA)
    (putL (opA ixA (varA 1) (cstA (.int 2))) (attrA O.desk "worths" (varA 0)) (opA ixA (varA 1) (cstA (.int 1))))) (ifA (opT (eqT false) (opA ixA (varA 1) (cstA (.int 0))) (cstA (.str "open"))) (seqA neverA
    (seqA neverA
    neverA)) (ifA (opT (eqT false) (opA ixA (varA 1) (cstA (.int 0))) (cstA (.str "back"))) (seqA neverA
    neverA) (ifA (opT (eqT false) (opA ixA (varA 1) (cstA (.int 0))) (cstA (.str "new"))) (dropA (methF O.desk "begin_anew" (TT_Desk_begin_anew O) (varA 0) nilL)) (retA (cstA (.bool false)))))))))
    (retA (cstA (.bool true))))
def TT_Desk_changed_n (O : OT) : SpT := bodyT 1 (tt_Desk_changed_n O)
theorem kk_Desk_changed_n {P : Program} {w : World} {K : PySem.W.Frag} {mg : Str → Option Value} {base : Heap} (T : Tx K mg w) : FnOk P w K mg base CX0 2 T.f_Desk_changed T.d_Desk_changed ["self", "words"] (spA 2 (TT_Desk_changed_n T.O)) :=
  okA T.F_Desk_changed sc_Desk_changed fun cdv A outer s H E B hr =>
    (ss_consA (sa_if (et_cmp (o_eq hr.units) (ea_ix (hu1 hr) (ea_v 1) ea_int) ea_str) (ss_consA (sa_setF T.c_Desk T.na_Desk_first_keys (ea_ix (hu1 hr) (ea_v 1) ea_int) (ea_v 0))
      (ss_oneA (sa_setF T.c_Desk T.na_Desk_gone_here (ea_frz (en_lst el_nil)) (ea_v 0)))) (ss_oneA (sa_if (et_cmp (o_eq hr.units) (ea_ix (hu1 hr) (ea_v 1) ea_int) ea_str) (ss_oneA (sa_expr (ea_methF T.c_Desk T.me_Desk_put_room (kk_Desk_put_room_n T) (hr.mono (by decide)) T.b_Desk_put_room (ea_v 0) (el_cons (ea_ix (hu1 hr) (ea_v 1) ea_int) (el_cons (ea_ix (hu1 hr) (ea_v 1) ea_int) el_nil))))) (ss_oneA (sa_if (et_cmp (o_eq hr.units) (ea_ix (hu1 hr) (ea_v 1) ea_int) ea_str) (ss_consA (sa_if (et_cmp o_ge (ea_ix (hu1 hr) (ea_v 1) ea_int) (ea_blt c_len T.m_len (el_cons (ea_attr T.c_Desk T.na_Desk_rooms_here (ea_v 0)) el_nil))) (ss_oneA sa_never) ss_nilA)
      (ss_oneA (sa_putL (ea_ix (hu1 hr) (ea_v 1) ea_int) (ea_attr T.c_Desk T.na_Desk_worths (ea_v 0)) (ea_ix (hu1 hr) (ea_v 1) ea_int)))) (ss_oneA (sa_if (et_cmp (o_eq hr.units) (ea_ix (hu1 hr) (ea_v 1) ea_int) ea_str) (ss_consA sa_never
      (ss_consA sa_never
      (ss_oneA sa_never))) (ss_oneA (sa_if (et_cmp (o_eq hr.units) (ea_ix (hu1 hr) (ea_v 1) ea_int) ea_str) (ss_consA sa_never
      (ss_oneA sa_never)) (ss_oneA (sa_if (et_cmp (o_eq hr.units) (ea_ix (hu1 hr) (ea_v 1) ea_int) ea_str) (ss_oneA (sa_expr (ea_methF0 T.c_Desk T.me_Desk_begin_anew (kk_Desk_begin_anew T) (hr.mono (by decide)) T.b_Desk_begin_anew (ea_v 0)))) (ss_oneA (sa_ret ea_bool)))))))))))))
      (ss_oneA (sa_ret ea_bool)))
def tt_Desk_stands (O : OT) (m : Nat) : TSA := (seqA (ifA (opT (eqT false) (varA 1) (cstA (.str "hand"))) (retA (callO TT_show_keys (consL (callF TT_keys_behind (consL (methF O.desk "house" (TT_Desk_house O) (varA 0) nilL) (consL (attrA O.desk "gone_here" (varA 0)) nilL))) nilL))) nextA)
    (seqA (ifA (opT (eqT false) (varA 1) (cstA (.str "next"))) (retA (callO TT_joined_words (consL (callF TT_next_rooms (consL (methF O.desk "house" (TT_Desk_house O) (varA 0) nilL) (consL (attrA O.desk "gone_here" (varA 0)) nilL))) nilL))) nextA)
    (seqA (ifA (opT (eqT false) (varA 1) (cstA (.str "gone"))) (retA (callO TT_joined_words (consL (attrA O.desk "gone_here" (varA 0)) nilL))) nextA)
    (seqA (ifA (opT (eqT false) (varA 1) (cstA (.str "show"))) (retA (replA "\n" "; " (callF TT_show_house (consL (methF O.desk "house" (TT_Desk_house O) (varA 0) nilL) nilL)))) nextA)
    (seqA (ifA (opT (eqT false) (varA 1) (cstA (.str "rooms"))) (retA (bltA strA (consL (bltA lenA (consL (attrA O.desk "rooms_here" (varA 0)) nilL)) nilL))) nextA)
    (retA (cstA .none)))))))
def TT_Desk_stands (O : OT) : SpT := bodyT 0 (tt_Desk_stands O)
theorem kk_Desk_stands {P : Program} {w : World} {K : PySem.W.Frag} {mg : Str → Option Value} {base : Heap} (T : Tx K mg w) : FnOk P w K mg base CX0 8 T.f_Desk_stands T.d_Desk_stands ["self", "word"] (spA 2 (TT_Desk_stands T.O)) :=
  okA T.F_Desk_stands sc_Desk_stands fun cdv A outer s H E B hr =>
    (ss_consA (sa_if (et_cmp (o_eq hr.units) (ea_v 1) ea_str) (ss_oneA (sa_ret (ea_callO (kk_show_keys T) (hr.mono (by decide)) T.g_show_keys T.F_show_keys.kp T.b_show_keys (el_cons (ea_callF (kk_keys_behind T) (hr.mono (by decide)) T.g_keys_behind T.F_keys_behind.kp T.b_keys_behind (el_cons (ea_methF0 T.c_Desk T.me_Desk_house (kk_Desk_house T) (hr.mono (by decide)) T.b_Desk_house (ea_v 0)) (el_cons (ea_attr T.c_Desk T.na_Desk_gone_here (ea_v 0)) el_nil))) el_nil)))) ss_nilA)
      (ss_consA (sa_if (et_cmp (o_eq hr.units) (ea_v 1) ea_str) (ss_oneA (sa_ret (ea_callO (kk_joined_words T) (hr.mono (by decide)) T.g_joined_words T.F_joined_words.kp T.b_joined_words (el_cons (ea_callF (kk_next_rooms T) (hr.mono (by decide)) T.g_next_rooms T.F_next_rooms.kp T.b_next_rooms (el_cons (ea_methF0 T.c_Desk T.me_Desk_house (kk_Desk_house T) (hr.mono (by decide)) T.b_Desk_house (ea_v 0)) (el_cons (ea_attr T.c_Desk T.na_Desk_gone_here (ea_v 0)) el_nil))) el_nil)))) ss_nilA)
      (ss_consA (sa_if (et_cmp (o_eq hr.units) (ea_v 1) ea_str) (ss_oneA (sa_ret (ea_callO (kk_joined_words T) (hr.mono (by decide)) T.g_joined_words T.F_joined_words.kp T.b_joined_words (el_cons (ea_attr T.c_Desk T.na_Desk_gone_here (ea_v 0)) el_nil)))) ss_nilA)
      (ss_consA (sa_ifRepl (o_eq hr.units) (ea_v 1) (ea_callF (kk_show_house T) (hr.mono (by decide)) T.g_show_house T.F_show_house.kp T.b_show_house (el_cons (ea_methF0 T.c_Desk T.me_Desk_house (kk_Desk_house T) (hr.mono (by decide)) T.b_Desk_house (ea_v 0)) el_nil)))
      (ss_consA (sa_if (et_cmp (o_eq hr.units) (ea_v 1) ea_str) (ss_oneA (sa_ret (ea_bty c_str T.m_str (el_cons (ea_blt c_len T.m_len (el_cons (ea_attr T.c_Desk T.na_Desk_rooms_here (ea_v 0)) el_nil)) el_nil)))) ss_nilA)
      (ss_oneA (sa_ret ea_none)))))))
def tt_Desk_say (E : ExT) (O : OT) (W : PyData → AS → Prop) (m : Nat) : TSA := (seqA (setA 2 (callF TT_words_asked (consL (varA 1) nilL)))
    (seqA (ifA (valA (methXF O.desk "changed" (TT_Desk_changed E O) W (varA 0) (consL (varA 2) nilL))) (retA (cstA (.str "ok"))) nextA)
    (seqA (setA 3 (methF O.desk "stands" (TT_Desk_stands O) (varA 0) (consL (opA ixA (varA 2) (cstA (.int 0))) nilL)))
    (seqA (ifA (opT (isNT false) (varA 3) (cstA .none)) neverA nextA)
    (retA (varA 3))))))
def TT_Desk_say (E : ExT) (O : OT) : SpTX := bodyTX 2 (tt_Desk_say E O)
theorem kk_Desk_say {P : Program} {w : World} {K : PySem.W.Frag} {mg : Str → Option Value} {base : Heap} (T : Tx K mg w) : FnOk P w K mg base (L2.CX P w) 9 T.f_Desk_say T.d_Desk_say ["self", "row"] (spAX 2 (TT_Desk_say T.E T.O)) :=
  okAX T.F_Desk_say sc_Desk_say fun cdv A outer s H Ex B W hr tk hpo =>
    (ss_consA (sa_set 2 sc_Desk_say.nd (ea_callF (kk_words_asked T) (hr.mono (by decide)) T.g_words_asked T.F_words_asked.kp T.b_words_asked (el_cons (ea_v 1) el_nil)))
      (ss_consA (sa_if (et_val (ea_methXF T.c_Desk T.me_Desk_changed (kk_Desk_changed T) (hr.mono (by decide)) T.b_Desk_changed tk (ea_v 0) (el_cons (ea_v 2) el_nil))) (ss_oneA (sa_ret ea_str)) ss_nilA)
      (ss_consA (sa_set 3 sc_Desk_say.nd (ea_methF T.c_Desk T.me_Desk_stands (kk_Desk_stands T) (hr.mono (by decide)) T.b_Desk_stands (ea_v 0) (el_cons (ea_ix (hu1 hr) (ea_v 2) ea_int) el_nil)))
      (ss_consA (sa_if (et_cmp o_isN (ea_v 3) ea_none) (ss_oneA sa_never) ss_nilA)
      (ss_oneA (sa_ret (ea_v 3)))))))
def tt_Desk_say_n (O : OT) (m : Nat) : TSA := (seqA (setA 2 (callF TT_words_asked (consL (varA 1) nilL)))
    (seqA (ifA (valA (methF O.desk "changed" (TT_Desk_changed_n O) (varA 0) (consL (varA 2) nilL))) (retA (cstA (.str "ok"))) nextA)
    (seqA (setA 3 (methF O.desk "stands" (TT_Desk_stands O) (varA 0) (consL (opA ixA (varA 2) (cstA (.int 0))) nilL)))
    (seqA (ifA (opT (isNT false) (varA 3) (cstA .none)) neverA nextA)
    (retA (varA 3))))))
def TT_Desk_say_n (O : OT) : SpT := bodyT 2 (tt_Desk_say_n O)
theorem kk_Desk_say_n {P : Program} {w : World} {K : PySem.W.Frag} {mg : Str → Option Value} {base : Heap} (T : Tx K mg w) : FnOk P w K mg base CX0 9 T.f_Desk_say T.d_Desk_say ["self", "row"] (spA 2 (TT_Desk_say_n T.O)) :=
  okA T.F_Desk_say sc_Desk_say fun cdv A outer s H E B hr =>
    (ss_consA (sa_set 2 sc_Desk_say.nd (ea_callF (kk_words_asked T) (hr.mono (by decide)) T.g_words_asked T.F_words_asked.kp T.b_words_asked (el_cons (ea_v 1) el_nil)))
      (ss_consA (sa_if (et_val (ea_methF T.c_Desk T.me_Desk_changed (kk_Desk_changed_n T) (hr.mono (by decide)) T.b_Desk_changed (ea_v 0) (el_cons (ea_v 2) el_nil))) (ss_oneA (sa_ret ea_str)) ss_nilA)
      (ss_consA (sa_set 3 sc_Desk_say.nd (ea_methF T.c_Desk T.me_Desk_stands (kk_Desk_stands T) (hr.mono (by decide)) T.b_Desk_stands (ea_v 0) (el_cons (ea_ix (hu1 hr) (ea_v 2) ea_int) el_nil)))
      (ss_consA (sa_if (et_cmp o_isN (ea_v 3) ea_none) (ss_oneA sa_never) ss_nilA)
      (ss_oneA (sa_ret (ea_v 3)))))))
def tt_law_cell_at (K : PySem.W.Frag) (m : Nat) : TSA := (seqA (ifA (opT ltT (varA 1) (scrLen K 0)) (retA (scrAt K 0 (varA 1))) nextA)
    (retA (cstA (.int 0))))
def TT_law_cell_at (K : PySem.W.Frag) : SpT := bodyT 0 (tt_law_cell_at K)
theorem kk_law_cell_at {P : Program} {w : World} {K : PySem.W.Frag} {mg : Str → Option Value} {base : Heap} (T : Tx K mg w) : FnOk P w K mg base CX0 1 T.f_law_cell_at T.d_law_cell_at ["script", "k"] (spA 2 (TT_law_cell_at K)) :=
  okA T.F_law_cell_at sc_law_cell_at fun cdv A outer s H E B hr =>
    (ss_consA (sa_if (et_cmp o_lt (ea_v 1) (ea_scrLen 0 T.m_len)) (ss_oneA (sa_ret (ea_scrAt 0 (ea_v 1)))) ss_nilA)
      (ss_oneA (sa_ret ea_int)))
def tt_law_numbers (m : Nat) : TSA := (seqA (setA 2 (ownA (lstN nilL)))
    (seqA (setA 3 (varA 0))
    (seqA (setA 4 (opA modA (varA 0) (cstA (.int 2147483647))))
    (seqA (forA m (iterR1 (fun s Q => (varA 1) s fun x s1 => onSome x.int? fun j => -(2 ^ 62) ≤ j ∧ Q x s1)) (nameG 5) (ifA (andA (opT geT (varA 0) (opA powA (cstA (.int 10)) (cstA (.int 18)))) (opT gtT (varA 3) (cstA (.int 0)))) (seqA (dropA (mtL appendA (varA 2) (consL (opA modA (varA 3) (cstA (.int 64))) nilL)))
    (setA 3 (opA fdivA (varA 3) (cstA (.int 64))))) (seqA (setA 4 (opA modA (opA mulX (opA addA (opA addA (varA 4) (opA mulX (cstA (.int 7)) (varA 5))) (cstA (.int 3))) (cstA (.int 48271))) (cstA (.int 2147483647))))
    (seqA (setA 6 (opA modA (opA mulX (opA modA (opA mulX (varA 4) (varA 4)) (cstA (.int 2147483629))) (cstA (.int 69621))) (cstA (.int 2147483587))))
    (dropA (mtL appendA (varA 2) (consL (opA modA (opA fdivA (varA 6) (cstA (.int 8))) (cstA (.int 720720))) nilL)))))))
    (retA (varA 2))))))
def TT_law_numbers : SpT := bodyT 5 (tt_law_numbers)
theorem kk_law_numbers {P : Program} {w : World} {K : PySem.W.Frag} {mg : Str → Option Value} {base : Heap} (T : Tx K mg w) : FnOk P w K mg base CX0 1 T.f_law_numbers T.d_law_numbers ["cell", "many"] (spA 2 (TT_law_numbers)) :=
  okA T.F_law_numbers sc_law_numbers fun cdv A outer s H E B hr =>
    (ss_consA (sa_set 2 sc_law_numbers.nd (ea_own (en_lst el_nil)))
      (ss_consA (sa_set 3 sc_law_numbers.nd (ea_v 0))
      (ss_consA (sa_set 4 sc_law_numbers.nd (ea_op o_mod (ea_v 0) ea_int))
      (ss_consA (sa_for PassesOwn.never rfl (ia_range1 T.m_range (ea_v 1)) (gt_name 5 sc_law_numbers.nd) (fun _ _ => (ss_oneA (sa_if (ET.of_w (ew_and (et_cmp o_ge (ea_v 0) (ea_op o_pow ea_int ea_int)) (ew_and1 (et_cmp o_gt (ea_v 3) ea_int)))) (ss_consA (sa_expr (ea_mtL PySem.F.slot_list_append PySem.F.type_list_append m_append (ea_v 2) (el_cons (ea_op o_mod (ea_v 3) ea_int) el_nil)))
      (ss_oneA (sa_set 3 sc_law_numbers.nd (ea_op o_fdiv (ea_v 3) ea_int)))) (ss_consA (sa_set 4 sc_law_numbers.nd (ea_op o_mod (ea_op o_mulX (ea_op o_add (ea_op o_add (ea_v 4) (ea_op o_mulX ea_int (ea_v 5))) ea_int) ea_int) ea_int))
      (ss_consA (sa_set 6 sc_law_numbers.nd (ea_op o_mod (ea_op o_mulX (ea_op o_mod (ea_op o_mulX (ea_v 4) (ea_v 4)) ea_int) ea_int) ea_int))
      (ss_oneA (sa_expr (ea_mtL PySem.F.slot_list_append PySem.F.type_list_append m_append (ea_v 2) (el_cons (ea_op o_mod (ea_op o_fdiv (ea_v 6) ea_int) ea_int) el_nil))))))))))
      (ss_oneA (sa_ret (ea_v 2)))))))
def tt_law_deck (m : Nat) : TSA := (retA (ownA (revN (callF TT_law_numbers (consL (varA 0) (consL (varA 1) nilL))))))
def TT_law_deck : SpT := bodyT 0 (tt_law_deck)
theorem kk_law_deck {P : Program} {w : World} {K : PySem.W.Frag} {mg : Str → Option Value} {base : Heap} (T : Tx K mg w) : FnOk P w K mg base CX0 2 T.f_law_deck T.d_law_deck ["cell", "many"] (spA 2 (TT_law_deck)) :=
  okA T.F_law_deck sc_law_deck fun cdv A outer s H E B hr =>
    (ss_oneA (sa_ret (ea_own (en_rev (ea_callF (kk_law_numbers T) (hr.mono (by decide)) T.g_law_numbers T.F_law_numbers.kp T.b_law_numbers (el_cons (ea_v 0) (el_cons (ea_v 1) el_nil)))))))
def tt_law_take (m : Nat) : TSA := (seqA (ifA (nilT false (varA 0)) (retA (cstA (.int 0))) nextA)
    (retA (opA modA (mtL0 (fun x xs s Q => xs = [] ∧ popA x xs s Q) (varA 0)) (varA 1))))
def TT_law_take : SpT := bodyT 0 (tt_law_take)
theorem kk_law_take {P : Program} {w : World} {K : PySem.W.Frag} {mg : Str → Option Value} {base : Heap} (T : Tx K mg w) : FnOk P w K mg base CX0 1 T.f_law_take T.d_law_take ["deck", "many"] (spA 2 (TT_law_take)) :=
  okA T.F_law_take sc_law_take fun cdv A outer s H E B hr =>
    (ss_consA (sa_if (et_eqNil hr.units (ea_v 0)) (ss_oneA (sa_ret ea_int)) ss_nilA)
      (ss_oneA (sa_ret (ea_op o_mod (ea_mtL0 PySem.F.slot_list_pop PySem.F.type_list_pop m_pop (ea_v 0)) (ea_v 1)))))
def tt_law_kind (m : Nat) : TSA := (seqA (setA 2 (callF TT_law_take (consL (varA 0) (consL (cstA (.int 16)) nilL))))
    (seqA (ifA (opT (eqT false) (varA 2) (cstA (.int 5))) (seqA (setA 3 (frzA (lstN (consL (cstA (.str "keys")) (consL (cstA (.str "room")) (consL (cstA (.str "open")) (consL (cstA (.str "back")) (consL (cstA (.str "new")) (consL (cstA (.str "hand")) (consL (cstA (.str "next")) (consL (cstA (.str "gone")) (consL (cstA (.str "all")) (consL (cstA (.str "buy")) (consL (cstA (.str "nth")) (consL (cstA (.str "most")) (consL (cstA (.str "best")) nilL))))))))))))))))
    (retA (opA ixA (opA addA (varA 3) (frzA (lstN (consL (cstA (.str "show")) (consL (cstA (.str "none")) (consL (cstA (.str "yes")) (consL (cstA (.str "few")) (consL (cstA (.str "shut")) nilL)))))))) (callF TT_law_take (consL (varA 0) (consL (cstA (.int 18)) nilL)))))) nextA)
    (seqA (ifA (opT (eqT false) (varA 2) (cstA (.int 6))) (retA (opA ixA (frzA (lstN (consL (cstA (.str "abcd")) (consL (cstA (.str "abce")) (consL (cstA (.str "abcz")) (consL (cstA (.str "zz")) (consL (cstA (.str "zy")) (consL (cstA (.str "zbcd")) (consL (cstA (.str "keya")) (consL (cstA (.str "keyb")) nilL)))))))))) (callF TT_law_take (consL (varA 0) (consL (cstA (.int 8)) nilL))))) nextA)
    (seqA (ifA (opT (eqT false) (varA 2) (cstA (.int 7))) (seqA (setA 4 (cstA (.str "")))
    (seqA (forA m (iterR1 (fun s Q => (opA addA (cstA (.int 1)) (callF TT_law_take (consL (varA 0) (consL (cstA (.int 4)) nilL)))) s fun x s1 => onSome x.int? fun j => -(2 ^ 62) ≤ j ∧ Q x s1)) (nameG 5) (setA 4 (opA addA (varA 4) (opA ixA (cstA (.str "abcdefghijklmnopqrstuvwxyz")) (callF TT_law_take (consL (varA 0) (consL (cstA (.int 26)) nilL)))))))
    (retA (varA 4)))) nextA)
    (retA (opA ixA (frzA (lstN (consL (cstA (.str "a")) (consL (cstA (.str "b")) (consL (cstA (.str "ab")) (consL (cstA (.str "c")) (consL (cstA (.str "zz")) (consL (cstA (.str "abcd")) (consL (cstA (.str "ba")) (consL (cstA (.str "k")) nilL)))))))))) (callF TT_law_take (consL (varA 0) (consL (varA 1) nilL)))))))))
def TT_law_kind : SpT := bodyT 4 (tt_law_kind)
theorem kk_law_kind {P : Program} {w : World} {K : PySem.W.Frag} {mg : Str → Option Value} {base : Heap} (T : Tx K mg w) : FnOk P w K mg base CX0 2 T.f_law_kind T.d_law_kind ["deck", "few"] (spA 2 (TT_law_kind)) :=
  okA T.F_law_kind sc_law_kind fun cdv A outer s H E B hr =>
    (ss_consA (sa_set 2 sc_law_kind.nd (ea_callF (kk_law_take T) (hr.mono (by decide)) T.g_law_take T.F_law_take.kp T.b_law_take (el_cons (ea_v 0) (el_cons ea_int el_nil))))
      (ss_consA (sa_if (et_cmp (o_eq hr.units) (ea_v 2) ea_int) (ss_consA (sa_set 3 sc_law_kind.nd (ea_frz (en_lst (el_cons ea_str (el_cons ea_str (el_cons ea_str (el_cons ea_str (el_cons ea_str (el_cons ea_str (el_cons ea_str (el_cons ea_str (el_cons ea_str (el_cons ea_str (el_cons ea_str (el_cons ea_str (el_cons ea_str el_nil))))))))))))))))
      (ss_oneA (sa_ret (ea_ix (hu1 hr) (ea_op o_add (ea_v 3) (ea_frz (en_lst (el_cons ea_str (el_cons ea_str (el_cons ea_str (el_cons ea_str (el_cons ea_str el_nil)))))))) (ea_callF (kk_law_take T) (hr.mono (by decide)) T.g_law_take T.F_law_take.kp T.b_law_take (el_cons (ea_v 0) (el_cons ea_int el_nil))))))) ss_nilA)
      (ss_consA (sa_if (et_cmp (o_eq hr.units) (ea_v 2) ea_int) (ss_oneA (sa_ret (ea_ix (hu1 hr) (ea_frz (en_lst (el_cons ea_str (el_cons ea_str (el_cons ea_str (el_cons ea_str (el_cons ea_str (el_cons ea_str (el_cons ea_str (el_cons ea_str el_nil)))))))))) (ea_callF (kk_law_take T) (hr.mono (by decide)) T.g_law_take T.F_law_take.kp T.b_law_take (el_cons (ea_v 0) (el_cons ea_int el_nil)))))) ss_nilA)
      (ss_consA (sa_if (et_cmp (o_eq hr.units) (ea_v 2) ea_int) (ss_consA (sa_set 4 sc_law_kind.nd ea_str)
      (ss_consA (sa_for PassesOwn.never rfl (ia_range1 T.m_range (ea_op o_add ea_int (ea_callF (kk_law_take T) (hr.mono (by decide)) T.g_law_take T.F_law_take.kp T.b_law_take (el_cons (ea_v 0) (el_cons ea_int el_nil))))) (gt_name 5 sc_law_kind.nd) (fun _ _ => (ss_oneA (sa_set 4 sc_law_kind.nd (ea_op o_add (ea_v 4) (ea_ix (hu1 hr) ea_str (ea_callF (kk_law_take T) (hr.mono (by decide)) T.g_law_take T.F_law_take.kp T.b_law_take (el_cons (ea_v 0) (el_cons ea_int el_nil)))))))))
      (ss_oneA (sa_ret (ea_v 4))))) ss_nilA)
      (ss_oneA (sa_ret (ea_ix (hu1 hr) (ea_frz (en_lst (el_cons ea_str (el_cons ea_str (el_cons ea_str (el_cons ea_str (el_cons ea_str (el_cons ea_str (el_cons ea_str (el_cons ea_str el_nil)))))))))) (ea_callF (kk_law_take T) (hr.mono (by decide)) T.g_law_take T.F_law_take.kp T.b_law_take (el_cons (ea_v 0) (el_cons (ea_v 1) el_nil))))))))))
def tt_law_keys (m : Nat) : TSA := (retA (ownA (lcN (ioT (iterR1 (fun s Q => (callF TT_law_take (consL (varA 0) (consL (varA 2) nilL))) s fun x s1 => onSome x.int? fun j => -(2 ^ 62) ≤ j ∧ Q x s1))) (nameG 3) yesA (callF TT_law_kind (consL (varA 0) (consL (varA 1) nilL))) [3])))
def TT_law_keys : SpT := bodyT 1 (tt_law_keys)
theorem kk_law_keys {P : Program} {w : World} {K : PySem.W.Frag} {mg : Str → Option Value} {base : Heap} (T : Tx K mg w) : FnOk P w K mg base CX0 3 T.f_law_keys T.d_law_keys ["deck", "few", "most"] (spA 3 (TT_law_keys)) :=
  okA T.F_law_keys sc_law_keys fun cdv A outer s H E B hr =>
    (ss_oneA (sa_ret (ea_own (en_lc [("k", 3)] (lcok sc_law_keys (by decide +kernel)) (IO.of (ia_range1 T.m_range (ea_callF (kk_law_take T) (hr.mono (by decide)) T.g_law_take T.F_law_take.kp T.b_law_take (el_cons (ea_v 0) (el_cons (ea_v 2) el_nil))))) (fun _ _ _ _ _ => (gt_name 3 sc_law_keys.nd)) (fun _ _ _ _ _ _ => (ea_callF (kk_law_kind T) (hr.mono (by decide)) T.g_law_kind T.F_law_kind.kp T.b_law_kind (el_cons (ea_v 0) (el_cons (ea_v 1) el_nil))))))))
def tt_law_house (m : Nat) : TSA := (seqA (setA 3 (opA ixA (frzA (lstN (consL (cstA (.int 2)) (consL (cstA (.int 3)) (consL (cstA (.int 8)) nilL))))) (callF TT_law_take (consL (varA 0) (consL (cstA (.int 3)) nilL)))))
    (seqA (setA 4 (ownA (lstN nilL)))
    (seqA (forA m (iterR1 (fun s Q => (callF TT_law_take (consL (varA 0) (consL (opA addA (varA 1) (cstA (.int 1))) nilL))) s fun x s1 => onSome x.int? fun j => -(2 ^ 62) ≤ j ∧ Q x s1)) (nameG 5) (seqA (setA 6 (frzA (bltN sortedN (consL (frzA (lcN (ioT (iterR1 (fun s Q => (opA addA (cstA (.int 1)) (callF TT_law_take (consL (varA 0) (consL (varA 2) nilL)))) s fun x s1 => onSome x.int? fun j => -(2 ^ 62) ≤ j ∧ Q x s1))) (nameG 7) yesA (callF TT_law_kind (consL (varA 0) (consL (varA 3) nilL))) [7])) nilL))))
    (dropA (mtL appendA (varA 4) (consL (tupA (consL (varA 6) (consL (callF TT_law_keys (consL (varA 0) (consL (varA 3) (consL (opA ixA (frzA (lstN (consL (cstA (.int 2)) (consL (cstA (.int 3)) (consL (cstA (.int 4)) (consL (cstA (.int 2)) (consL (opA ixA (frzA (lstN (consL (cstA (.int 9)) (consL (cstA (.int 3)) nilL)))) (bltA intA (consL (boolA (opT gtT (varA 1) (cstA (.int 12)))) nilL))) nilL))))))) (callF TT_law_take (consL (varA 0) (consL (cstA (.int 5)) nilL)))) nilL)))) nilL))) nilL)))))
    (retA (tupA (consL (callF TT_law_keys (consL (varA 0) (consL (varA 3) (consL (opA ixA (frzA (lstN (consL (cstA (.int 5)) (consL (cstA (.int 5)) (consL (cstA (.int 5)) (consL (cstA (.int 13)) nilL)))))) (callF TT_law_take (consL (varA 0) (consL (cstA (.int 4)) nilL)))) nilL)))) (consL (fzA m 4) nilL)))))))
def TT_law_house : SpT := bodyT 5 (tt_law_house)
theorem kk_law_house {P : Program} {w : World} {K : PySem.W.Frag} {mg : Str → Option Value} {base : Heap} (T : Tx K mg w) : FnOk P w K mg base CX0 4 T.f_law_house T.d_law_house ["deck", "most", "locks"] (spA 3 (TT_law_house)) :=
  okA T.F_law_house sc_law_house fun cdv A outer s H E B hr =>
    (ss_consA (sa_set 3 sc_law_house.nd (ea_ix (hu1 hr) (ea_frz (en_lst (el_cons ea_int (el_cons ea_int (el_cons ea_int el_nil))))) (ea_callF (kk_law_take T) (hr.mono (by decide)) T.g_law_take T.F_law_take.kp T.b_law_take (el_cons (ea_v 0) (el_cons ea_int el_nil)))))
      (ss_consA (sa_set 4 sc_law_house.nd (ea_own (en_lst el_nil)))
      (ss_consA (sa_for PassesOwn.never rfl (ia_range1 T.m_range (ea_callF (kk_law_take T) (hr.mono (by decide)) T.g_law_take T.F_law_take.kp T.b_law_take (el_cons (ea_v 0) (el_cons (ea_op o_add (ea_v 1) ea_int) el_nil)))) (gt_name 5 sc_law_house.nd) (fun _ _ => (ss_consA (sa_set 6 sc_law_house.nd (ea_frz (en_blt (c_sorted rfl) T.m_sorted (el_cons (ea_frz (en_lc [("j", 7)] (lcok sc_law_house (by decide +kernel)) (IO.of (ia_range1 T.m_range (ea_op o_add ea_int (ea_callF (kk_law_take T) (hr.mono (by decide)) T.g_law_take T.F_law_take.kp T.b_law_take (el_cons (ea_v 0) (el_cons (ea_v 2) el_nil)))))) (fun _ _ _ _ _ => (gt_name 7 sc_law_house.nd)) (fun _ _ _ _ _ _ => (ea_callF (kk_law_kind T) (hr.mono (by decide)) T.g_law_kind T.F_law_kind.kp T.b_law_kind (el_cons (ea_v 0) (el_cons (ea_v 3) el_nil)))))) el_nil))))
      (ss_oneA (sa_expr (ea_mtL PySem.F.slot_list_append PySem.F.type_list_append m_append (ea_v 4) (el_cons (ea_tup (el_cons (ea_v 6) (el_cons (ea_callF (kk_law_keys T) (hr.mono (by decide)) T.g_law_keys T.F_law_keys.kp T.b_law_keys (el_cons (ea_v 0) (el_cons (ea_v 3) (el_cons (ea_ix (hu1 hr) (ea_frz (en_lst (el_cons ea_int (el_cons ea_int (el_cons ea_int (el_cons ea_int (el_cons (ea_ix (hu1 hr) (ea_frz (en_lst (el_cons ea_int (el_cons ea_int el_nil)))) (ea_bty c_int T.m_int (el_cons (ea_cmp o_gt (ea_v 1) ea_int) el_nil))) el_nil))))))) (ea_callF (kk_law_take T) (hr.mono (by decide)) T.g_law_take T.F_law_take.kp T.b_law_take (el_cons (ea_v 0) (el_cons ea_int el_nil)))) el_nil)))) el_nil))) el_nil)))))))
      (ss_oneA (sa_ret (ea_tup (el_cons (ea_callF (kk_law_keys T) (hr.mono (by decide)) T.g_law_keys T.F_law_keys.kp T.b_law_keys (el_cons (ea_v 0) (el_cons (ea_v 3) (el_cons (ea_ix (hu1 hr) (ea_frz (en_lst (el_cons ea_int (el_cons ea_int (el_cons ea_int (el_cons ea_int el_nil)))))) (ea_callF (kk_law_take T) (hr.mono (by decide)) T.g_law_take T.F_law_take.kp T.b_law_take (el_cons (ea_v 0) (el_cons ea_int el_nil)))) el_nil)))) (el_cons (ea_fz 4) el_nil))))))))
def tt_law_keys_written (m : Nat) : TSA := (retA (joinA (cstA (.str " ")) (opA addA (frzA (bltN sortedN (consL (varA 0) nilL))) (opA mulX (frzA (lstN (consL (cstA (.str "-")) nilL))) (bltA intA (consL (boolA (nilT false (varA 0))) nilL))))))
def TT_law_keys_written : SpT := bodyT 0 (tt_law_keys_written)
theorem kk_law_keys_written {P : Program} {w : World} {K : PySem.W.Frag} {mg : Str → Option Value} {base : Heap} (T : Tx K mg w) : FnOk P w K mg base CX0 1 T.f_law_keys_written T.d_law_keys_written ["keys"] (spA 1 (TT_law_keys_written)) :=
  okA T.F_law_keys_written sc_law_keys_written fun cdv A outer s H E B hr =>
    (ss_oneA (sa_ret (ea_join ea_str (ea_op o_add (ea_frz (en_blt (c_sorted rfl) T.m_sorted (el_cons (ea_v 0) el_nil))) (ea_op o_mulX (ea_frz (en_lst (el_cons ea_str el_nil))) (ea_bty c_int T.m_int (el_cons (ea_eqNil hr.units (ea_v 0)) el_nil)))))))
def tt_law_lines (m : Nat) : TSA := (seqA (setA 1 (ownA (lstN (consL (callF TT_law_keys_written (consL (opA ixA (varA 0) (cstA (.int 0))) nilL)) nilL))))
    (seqA (forA m (iterL (opA ixA (varA 0) (cstA (.int 1)))) (tup2G (nameG 2) (nameG 3)) (dropA (mtL appendA (varA 1) (consL (opA addA (opA addA (joinA (cstA (.str "+")) (varA 2)) (cstA (.str ": "))) (callF TT_law_keys_written (consL (varA 3) nilL))) nilL))))
    (retA (varA 1))))
def TT_law_lines : SpT := bodyT 3 (tt_law_lines)
theorem kk_law_lines {P : Program} {w : World} {K : PySem.W.Frag} {mg : Str → Option Value} {base : Heap} (T : Tx K mg w) : FnOk P w K mg base CX0 2 T.f_law_lines T.d_law_lines ["house"] (spA 1 (TT_law_lines)) :=
  okA T.F_law_lines sc_law_lines fun cdv A outer s H E B hr =>
    (ss_consA (sa_set 1 sc_law_lines.nd (ea_own (en_lst (el_cons (ea_callF (kk_law_keys_written T) (hr.mono (by decide)) T.g_law_keys_written T.F_law_keys_written.kp T.b_law_keys_written (el_cons (ea_ix (hu1 hr) (ea_v 0) ea_int) el_nil)) el_nil))))
      (ss_consA (sa_for PassesOwn.never rfl (ia_list (ea_ix (hu1 hr) (ea_v 0) ea_int)) (gt_tup2 rfl (gt_name 2 sc_law_lines.nd) (gt_name 3 sc_law_lines.nd)) (fun _ _ => (ss_oneA (sa_expr (ea_mtL PySem.F.slot_list_append PySem.F.type_list_append m_append (ea_v 1) (el_cons (ea_op o_add (ea_op o_add (ea_join ea_str (ea_v 2)) ea_str) (ea_callF (kk_law_keys_written T) (hr.mono (by decide)) T.g_law_keys_written T.F_law_keys_written.kp T.b_law_keys_written (el_cons (ea_v 3) el_nil))) el_nil))))))
      (ss_oneA (sa_ret (ea_v 1)))))
def tt_law_hand (m : Nat) : TSA := (seqA (setA 2 (ownA (bltN listN (consL (opA ixA (varA 0) (cstA (.int 0))) nilL))))
    (seqA (forA m (iterR1 (fun s Q => (bltA lenA (consL (varA 1) nilL)) s fun x s1 => onSome x.int? fun j => -(2 ^ 62) ≤ j ∧ Q x s1)) (nameG 3) (seqA (ifA (orA (opT geT (opA ixA (varA 1) (varA 3)) (bltA lenA (consL (opA ixA (varA 0) (cstA (.int 1))) nilL))) (opT (inT false) (opA ixA (varA 1) (varA 3)) (slHi (varA 1) (varA 3)))) (retA (cstA .none)) nextA)
    (seqA (forA m (iterL (opA ixA (opA ixA (opA ixA (varA 0) (cstA (.int 1))) (opA ixA (varA 1) (varA 3))) (cstA (.int 0)))) (nameG 4) (seqA (ifA (opT (inT true) (varA 4) (varA 2)) (retA (cstA .none)) nextA)
    (dropA (mtL removeA (varA 2) (consL (varA 4) nilL)))))
    (setA 2 (ownA (opN catN (varA 2) (opA ixA (opA ixA (opA ixA (varA 0) (cstA (.int 1))) (opA ixA (varA 1) (varA 3))) (cstA (.int 1)))))))))
    (retA (ownA (bltN sortedN (consL (varA 2) nilL))))))
def TT_law_hand : SpT := bodyT 3 (tt_law_hand)
theorem kk_law_hand {P : Program} {w : World} {K : PySem.W.Frag} {mg : Str → Option Value} {base : Heap} (T : Tx K mg w) : FnOk P w K mg base CX0 1 T.f_law_hand T.d_law_hand ["house", "order"] (spA 2 (TT_law_hand)) :=
  okA T.F_law_hand sc_law_hand fun cdv A outer s H E B hr =>
    (ss_consA (sa_set 2 sc_law_hand.nd (ea_own (en_bty c_list T.m_list (el_cons (ea_ix (hu1 hr) (ea_v 0) ea_int) el_nil))))
      (ss_consA (sa_for PassesOwn.never rfl (ia_range1 T.m_range (ea_blt c_len T.m_len (el_cons (ea_v 1) el_nil))) (gt_name 3 sc_law_hand.nd) (fun _ _ => (ss_consA (sa_if (ET.of_w (ew_or (et_cmp o_ge (ea_ix (hu1 hr) (ea_v 1) (ea_v 3)) (ea_blt c_len T.m_len (el_cons (ea_ix (hu1 hr) (ea_v 0) ea_int) el_nil))) (ew_or1 (et_cmp (o_in (hu1 hr)) (ea_ix (hu1 hr) (ea_v 1) (ea_v 3)) (ea_slHi (ea_v 1) (ea_v 3)))))) (ss_oneA (sa_ret ea_none)) ss_nilA)
      (ss_consA (sa_for PassesOwn.never rfl (ia_list (ea_ix (hu1 hr) (ea_ix (hu1 hr) (ea_ix (hu1 hr) (ea_v 0) ea_int) (ea_ix (hu1 hr) (ea_v 1) (ea_v 3))) ea_int)) (gt_name 4 sc_law_hand.nd) (fun _ _ => (ss_consA (sa_if (et_cmp (o_notIn (hu1 hr)) (ea_v 4) (ea_v 2)) (ss_oneA (sa_ret ea_none)) ss_nilA)
      (ss_oneA (sa_expr (ea_mtL PySem.F.slot_list_remove PySem.F.type_list_remove m_remove (ea_v 2) (el_cons (ea_v 4) el_nil)))))))
      (ss_oneA (sa_set 2 sc_law_hand.nd (ea_own (en_op o_cat (ea_v 2) (ea_ix (hu1 hr) (ea_ix (hu1 hr) (ea_ix (hu1 hr) (ea_v 0) ea_int) (ea_ix (hu1 hr) (ea_v 1) (ea_v 3))) ea_int)))))))))
      (ss_oneA (sa_ret (ea_own (en_blt (c_sorted rfl) T.m_sorted (el_cons (ea_v 2) el_nil)))))))
def tt_law_next (m : Nat) : TSA := (retA (ownA (lcN (ioT (iterR1 (fun s Q => (bltA lenA (consL (opA ixA (varA 0) (cstA (.int 1))) nilL)) s fun x s1 => onSome x.int? fun j => -(2 ^ 62) ≤ j ∧ Q x s1))) (nameG 2) (opT (isNT true) (callF TT_law_hand (consL (varA 0) (consL (opA addA (varA 1) (frzA (lstN (consL (varA 2) nilL)))) nilL))) (cstA .none)) (varA 2) [2])))
def TT_law_next : SpT := bodyT 1 (tt_law_next)
theorem kk_law_next {P : Program} {w : World} {K : PySem.W.Frag} {mg : Str → Option Value} {base : Heap} (T : Tx K mg w) : FnOk P w K mg base CX0 2 T.f_law_next T.d_law_next ["house", "order"] (spA 2 (TT_law_next)) :=
  okA T.F_law_next sc_law_next fun cdv A outer s H E B hr =>
    (ss_oneA (sa_ret (ea_own (en_lcIf [("room", 2)] (lcok sc_law_next (by decide +kernel)) (IO.of (ia_range1 T.m_range (ea_blt c_len T.m_len (el_cons (ea_ix (hu1 hr) (ea_v 0) ea_int) el_nil)))) (fun _ _ _ _ _ => (gt_name 2 sc_law_next.nd)) (fun _ _ _ _ _ _ => (et_cmp o_notN (ea_callF (kk_law_hand T) (hr.mono (by decide)) T.g_law_hand T.F_law_hand.kp T.b_law_hand (el_cons (ea_v 0) (el_cons (ea_op o_add (ea_v 1) (ea_frz (en_lst (el_cons (ea_v 2) el_nil)))) el_nil))) ea_none)) (fun _ _ _ _ _ _ => (ea_v 2))))))
def tt_law_words (m : Nat) : TSA := (retA (joinA (cstA (.str " ")) (opA addA (frzA (lcN (iterO (varA 0)) (nameG 1) yesA (bltA strA (consL (varA 1) nilL)) [1])) (opA mulX (frzA (lstN (consL (cstA (.str "none")) nilL))) (bltA intA (consL (boolA (nilT false (varA 0))) nilL))))))
def TT_law_words : SpT := bodyT 1 (tt_law_words)
theorem kk_law_words {P : Program} {w : World} {K : PySem.W.Frag} {mg : Str → Option Value} {base : Heap} (T : Tx K mg w) : FnOk P w K mg base CX0 1 T.f_law_words T.d_law_words ["things"] (spA 1 (TT_law_words)) :=
  okA T.F_law_words sc_law_words fun cdv A outer s H E B hr =>
    (ss_oneA (sa_ret (ea_join ea_str (ea_op o_add (ea_frz (en_lc [("one", 1)] (lcok sc_law_words (by decide +kernel)) (io_list (ea_v 0)) (fun _ _ _ _ _ => (gt_name 1 sc_law_words.nd)) (fun _ _ _ _ _ _ => (ea_bty c_str T.m_str (el_cons (ea_v 1) el_nil))))) (ea_op o_mulX (ea_frz (en_lst (el_cons ea_str el_nil))) (ea_bty c_int T.m_int (el_cons (ea_eqNil hr.units (ea_v 0)) el_nil)))))))
def tt_law_said (E : ExT) (O : OT) (m : Nat) : TSA := (seqA (setA 2 (cstA .none))
    (seqA (setA 3 (cstA (.str "")))
    (seqA (tryK E [.many, .step] "KeyroomError" 4 2 (fun W => (setA 3 (methXF O.desk "say" (TT_Desk_say E O) W (varA 0) (consL (varA 1) nilL)))))
    (seqA (ifA (opT (isNT false) (varA 2) (cstA .none)) (retA (opA ixA (frzA (lstN (consL (varA 3) (consL (cstA (.str "odd")) nilL)))) (bltA intA (consL (orV (notV (isiT "str" (varA 3))) (boolA (opT (inT false) (slHi (varA 3) (cstA (.int 2))) (frzA (lstN (consL (cstA (.str "No")) (consL (cstA (.str "To")) nilL))))))) nilL)))) nextA)
    (seqA (setA 5 (frzA (lstN (consL (isiX E [.many, .step] "NoRow" (varA 2)) (consL (isiX E [.many, .step] "NoStep" (varA 2)) (consL (isiX E [.many, .step] "NoPlain" (varA 2)) nilL))))))
    (seqA (setA 5 (opA addA (varA 5) (frzA (lstN (consL (isiX E [.many, .step] "NoNumber" (varA 2)) (consL (isiX E [.many, .step] "TooMany" (varA 2)) nilL))))))
    (seqA (ifA (orA (valA (isiXT E [.many, .step] ["NoHouse", "NoKind", "NoOrder", "NoText"] (varA 2))) (notA (valA (isiX E [.many, .step] "ValueError" (varA 2))))) (retA (cstA (.str "odd"))) nextA)
    (seqA (ifA (opT (eqT true) (mtL countBA (varA 5) (consL (cstA (.bool true)) nilL)) (cstA (.int 1))) (retA (cstA (.str "odd"))) nextA)
    (retA (opA ixA (frzA (lstN (consL (cstA (.str "NoRow")) (consL (cstA (.str "NoStep")) (consL (cstA (.str "NoPlain")) (consL (cstA (.str "NoNumber")) (consL (cstA (.str "TooMany")) nilL))))))) (mtL indexA (varA 5) (consL (cstA (.bool true)) nilL))))))))))))
def TT_law_said (E : ExT) (O : OT) : SpT := bodyT 4 (tt_law_said E O)
theorem kk_law_said {P : Program} {w : World} {K : PySem.W.Frag} {mg : Str → Option Value} {base : Heap} (T : Tx K mg w) : FnOk P w K mg base CX0 10 T.f_law_said T.d_law_said ["desk", "row"] (spA 2 (TT_law_said T.E T.O)) :=
  okA T.F_law_said sc_law_said fun cdv A outer s H E B hr =>
    (ss_consA (sa_set 2 sc_law_said.nd ea_none)
      (ss_consA (sa_set 3 sc_law_said.nd ea_str)
      (ss_consA (sa_tryK 4 2 rfl rfl sc_law_said.nd ⟨rfl, by decide, .inl T.x_KeyroomError⟩ T.h_KeyroomError (fun W _ _ tk hpo => (ss_oneA (sa_set 3 sc_law_said.nd (ea_methXF T.c_Desk T.me_Desk_say (kk_Desk_say T) (hr.mono (by decide)) T.b_Desk_say tk (ea_v 0) (el_cons (ea_v 1) el_nil))))))
      (ss_consA (sa_if (et_cmp o_isN (ea_v 2) ea_none) (ss_oneA (sa_ret (ea_ix (hu1 hr) (ea_frz (en_lst (el_cons (ea_v 3) (el_cons ea_str el_nil)))) (ea_bty c_int T.m_int (el_cons (ea_or (ea_not (ea_isi (tn := "str") T.m_isinstance T.m_str (ea_v 3))) (ea_one (ea_cmp (o_in (hu1 hr)) (ea_slHi (ea_v 3) ea_int) (ea_frz (en_lst (el_cons ea_str (el_cons ea_str el_nil))))))) el_nil))))) ss_nilA)
      (ss_consA (sa_set 5 sc_law_said.nd (ea_frz (en_lst (el_cons (ea_isiX (c := .ref (T.E.c .row)) T.m_isinstance (ea_v 2) (pe_glob rfl T.g_NoRow rfl) (fun _ h => h) T.xC T.k_NoRow) (el_cons (ea_isiX (c := .ref (T.E.c .step)) T.m_isinstance (ea_v 2) (pe_glob rfl T.g_NoStep rfl) (fun _ h => h) T.xC T.k_NoStep) (el_cons (ea_isiX (c := .ref (T.E.c .plain)) T.m_isinstance (ea_v 2) (pe_glob rfl T.g_NoPlain rfl) (fun _ h => h) T.xC T.k_NoPlain) el_nil))))))
      (ss_consA (sa_set 5 sc_law_said.nd (ea_op o_add (ea_v 5) (ea_frz (en_lst (el_cons (ea_isiX (c := .ref (T.E.c .number)) T.m_isinstance (ea_v 2) (pe_glob rfl T.g_NoNumber rfl) (fun _ h => h) T.xC T.k_NoNumber) (el_cons (ea_isiX (c := .ref (T.E.c .many)) T.m_isinstance (ea_v 2) (pe_glob rfl T.g_TooMany rfl) (fun _ h => h) T.xC T.k_TooMany) el_nil))))))
      (ss_consA (sa_if (ET.of_w (ew_or (et_val (ea_isiXT (nms := ["NoHouse", "NoKind", "NoOrder", "NoText"]) (cs := [(T.E.c .house), (T.E.c .kind), (T.E.c .order), (T.E.c .text)].map V.ref) (cvs := [(T.E.c .house), (T.E.c .kind), (T.E.c .order), (T.E.c .text)].map Value.ref) T.m_isinstance (ea_v 2) (pe_tup (pa_cons (pe_glob (v := .ref (T.E.c .house)) rfl T.g_NoHouse rfl) (pa_cons (pe_glob (v := .ref (T.E.c .kind)) rfl T.g_NoKind rfl) (pa_cons (pe_glob (v := .ref (T.E.c .order)) rfl T.g_NoOrder rfl) (pa_cons (pe_glob (v := .ref (T.E.c .text)) rfl T.g_NoText rfl) pa_nil))))) (fun _ _ _ k => ⟨(show 4 ≤ sizeLine by decide), k⟩) (fun _ h => vals_refs h) T.xC (fun n hn => (kitAny_cons (T.k_NoHouse n hn) (kitAny_cons (T.k_NoKind n hn) (kitAny_cons (T.k_NoOrder n hn) (kitAny_cons (T.k_NoText n hn) kitAny_nil))))))) (ew_or1 (et_not (et_val (ea_isiX (c := .ty "ValueError") T.m_isinstance (ea_v 2) (pe_bltn rfl T.m_ValueError (by decide +kernel) rfl) (fun _ h => h) T.xC T.k_ValueError)))))) (ss_oneA (sa_ret ea_str)) ss_nilA)
      (ss_consA (sa_if (et_cmp (o_ne hr.units) (ea_mtL PySem.F.slot_list_count PySem.F.type_list_count m_countB (ea_v 5) (el_cons ea_bool el_nil)) ea_int) (ss_oneA (sa_ret ea_str)) ss_nilA)
      (ss_oneA (sa_ret (ea_ix (hu1 hr) (ea_frz (en_lst (el_cons ea_str (el_cons ea_str (el_cons ea_str (el_cons ea_str (el_cons ea_str el_nil))))))) (ea_mtL PySem.F.slot_list_index PySem.F.type_list_index m_index (ea_v 5) (el_cons ea_bool el_nil)))))))))))))
def tt_law_house_rows (m : Nat) : TSA := (seqA (setA 2 (ownA (lstN (consL (opA addA (cstA (.str "keys ")) (joinA (cstA (.str " ")) (opA addA (opA ixA (varA 1) (cstA (.int 0))) (opA mulX (frzA (lstN (consL (cstA (.str "-")) nilL))) (bltA intA (consL (boolA (nilT false (opA ixA (varA 1) (cstA (.int 0))))) nilL)))))) nilL))))
    (seqA (forA m (iterL (opA ixA (varA 1) (cstA (.int 1)))) (tup2G (nameG 3) (nameG 4)) (seqA (setA 5 (callF TT_law_take (consL (varA 0) (consL (bltA lenA (consL (varA 3) nilL)) nilL))))
    (seqA (setA 6 (joinA (cstA (.str "+")) (opA addA (slLo (varA 3) (varA 5)) (slHi (varA 3) (varA 5)))))
    (dropA (mtL appendA (varA 2) (consL (opA addA (opA addA (opA addA (cstA (.str "room ")) (varA 6)) (cstA (.str " "))) (joinA (cstA (.str " ")) (opA addA (varA 4) (opA mulX (frzA (lstN (consL (cstA (.str "-")) nilL))) (bltA intA (consL (boolA (nilT false (varA 4))) nilL)))))) nilL))))))
    (retA (varA 2))))
def TT_law_house_rows : SpT := bodyT 5 (tt_law_house_rows)
theorem kk_law_house_rows {P : Program} {w : World} {K : PySem.W.Frag} {mg : Str → Option Value} {base : Heap} (T : Tx K mg w) : FnOk P w K mg base CX0 2 T.f_law_house_rows T.d_law_house_rows ["deck", "house"] (spA 2 (TT_law_house_rows)) :=
  okA T.F_law_house_rows sc_law_house_rows fun cdv A outer s H E B hr =>
    (ss_consA (sa_set 2 sc_law_house_rows.nd (ea_own (en_lst (el_cons (ea_op o_add ea_str (ea_join ea_str (ea_op o_add (ea_ix (hu1 hr) (ea_v 1) ea_int) (ea_op o_mulX (ea_frz (en_lst (el_cons ea_str el_nil))) (ea_bty c_int T.m_int (el_cons (ea_eqNil hr.units (ea_ix (hu1 hr) (ea_v 1) ea_int)) el_nil)))))) el_nil))))
      (ss_consA (sa_for PassesOwn.never rfl (ia_list (ea_ix (hu1 hr) (ea_v 1) ea_int)) (gt_tup2 rfl (gt_name 3 sc_law_house_rows.nd) (gt_name 4 sc_law_house_rows.nd)) (fun _ _ => (ss_consA (sa_set 5 sc_law_house_rows.nd (ea_callF (kk_law_take T) (hr.mono (by decide)) T.g_law_take T.F_law_take.kp T.b_law_take (el_cons (ea_v 0) (el_cons (ea_blt c_len T.m_len (el_cons (ea_v 3) el_nil)) el_nil))))
      (ss_consA (sa_set 6 sc_law_house_rows.nd (ea_join ea_str (ea_op o_add (ea_slLo (ea_v 3) (ea_v 5)) (ea_slHi (ea_v 3) (ea_v 5)))))
      (ss_oneA (sa_expr (ea_mtL PySem.F.slot_list_append PySem.F.type_list_append m_append (ea_v 2) (el_cons (ea_op o_add (ea_op o_add (ea_op o_add ea_str (ea_v 6)) ea_str) (ea_join ea_str (ea_op o_add (ea_v 4) (ea_op o_mulX (ea_frz (en_lst (el_cons ea_str el_nil))) (ea_bty c_int T.m_int (el_cons (ea_eqNil hr.units (ea_v 4)) el_nil)))))) el_nil))))))))
      (ss_oneA (sa_ret (ea_v 2)))))
def tt_law_row (m : Nat) : TSA := (seqA (setA 2 (callF TT_law_take (consL (varA 0) (consL (cstA (.int 8)) nilL))))
    (seqA (setA 3 (opA ixA (frzA (lstN (consL (cstA (.int 2)) (consL (cstA (.int 3)) (consL (cstA (.int 8)) nilL))))) (callF TT_law_take (consL (varA 0) (consL (cstA (.int 3)) nilL)))))
    (seqA (ifA (opT (eqT false) (varA 2) (cstA (.int 0))) (seqA (putL (callF TT_law_keys (consL (varA 0) (consL (varA 3) (consL (opA ixA (frzA (lstN (consL (cstA (.int 5)) (consL (cstA (.int 5)) (consL (cstA (.int 13)) (consL (cstA (.int 41)) nilL)))))) (callF TT_law_take (consL (varA 0) (consL (cstA (.int 4)) nilL)))) nilL)))) (varA 1) (cstA (.int 0)))
    (retA (tupA (consL (opA ixA (callF TT_law_house_rows (consL (varA 0) (consL (tupA (consL (opA ixA (varA 1) (cstA (.int 0))) (consL (frzA (lstN nilL)) nilL))) nilL))) (cstA (.int 0))) (consL (cstA (.str "ok")) nilL))))) nextA)
    (seqA (ifA (opT (eqT false) (varA 2) (cstA (.int 1))) (seqA (setA 4 (callF TT_law_take (consL (varA 0) (consL (cstA (.int 14)) nilL))))
    (seqA (setA 5 (opA ixA (frzA (lstN (consL (callF TT_law_take (consL (varA 0) (consL (cstA (.int 100)) nilL))) (consL (cstA (.int 999999999)) (consL (cstA (.int 0)) nilL))))) (callF TT_law_take (consL (varA 0) (consL (cstA (.int 3)) nilL)))))
    (retA (tupA (consL (opA addA (opA addA (opA addA (cstA (.str "worth ")) (bltA strA (consL (varA 4) nilL))) (cstA (.str " "))) (bltA strA (consL (varA 5) nilL))) (consL (opA ixA (frzA (lstN (consL (cstA (.str "NoStep")) (consL (cstA (.str "ok")) nilL)))) (bltA intA (consL (boolA (opT ltT (varA 4) (bltA lenA (consL (opA ixA (varA 1) (cstA (.int 1))) nilL)))) nilL))) nilL)))))) nextA)
    (seqA (ifA (andA (opT (eqT false) (varA 2) (cstA (.int 2))) (opT (eqT false) (callF TT_law_take (consL (varA 0) (consL (cstA (.int 3)) nilL))) (cstA (.int 0)))) (seqA (putL (frzA (lstN nilL)) (varA 1) (cstA (.int 0)))
    (seqA (putL (frzA (lstN nilL)) (varA 1) (cstA (.int 1)))
    (retA (tupA (consL (cstA (.str "new")) (consL (cstA (.str "ok")) nilL)))))) nextA)
    (seqA (setA 6 (callF TT_law_keys (consL (varA 0) (consL (varA 3) (consL (opA ixA (frzA (lstN (consL (cstA (.int 4)) (consL (cstA (.int 4)) (consL (cstA (.int 4)) (consL (cstA (.int 9)) nilL)))))) (callF TT_law_take (consL (varA 0) (consL (cstA (.int 4)) nilL)))) nilL)))))
    (seqA (setA 4 (tupA (consL (frzA (bltN sortedN (consL (frzA (lcN (ioT (iterR1 (fun s Q => (opA addA (cstA (.int 1)) (callF TT_law_take (consL (varA 0) (consL (cstA (.int 4)) nilL)))) s fun x s1 => onSome x.int? fun j => -(2 ^ 62) ≤ j ∧ Q x s1))) (nameG 7) yesA (callF TT_law_kind (consL (varA 0) (consL (varA 3) nilL))) [7])) nilL))) (consL (varA 6) nilL))))
    (seqA (setA 8 (opA ixA (callF TT_law_house_rows (consL (varA 0) (consL (tupA (consL (frzA (lstN nilL)) (consL (frzA (lstN (consL (varA 4) nilL))) nilL))) nilL))) (cstA (.int 1))))
    (seqA (ifA (opT (eqT false) (bltA lenA (consL (opA ixA (varA 1) (cstA (.int 1))) nilL)) (cstA (.int 12))) (retA (tupA (consL (varA 8) (consL (cstA (.str "TooMany")) nilL)))) nextA)
    (seqA (putL (opA addA (opA ixA (varA 1) (cstA (.int 1))) (frzA (lstN (consL (varA 4) nilL)))) (varA 1) (cstA (.int 1)))
    (retA (tupA (consL (varA 8) (consL (cstA (.str "ok")) nilL))))))))))))))
def TT_law_row : SpT := bodyT 7 (tt_law_row)
theorem kk_law_row {P : Program} {w : World} {K : PySem.W.Frag} {mg : Str → Option Value} {base : Heap} (T : Tx K mg w) : FnOk P w K mg base CX0 4 T.f_law_row T.d_law_row ["deck", "state"] (spA 2 (TT_law_row)) :=
  okA T.F_law_row sc_law_row fun cdv A outer s H E B hr =>
    (ss_consA (sa_set 2 sc_law_row.nd (ea_callF (kk_law_take T) (hr.mono (by decide)) T.g_law_take T.F_law_take.kp T.b_law_take (el_cons (ea_v 0) (el_cons ea_int el_nil))))
      (ss_consA (sa_set 3 sc_law_row.nd (ea_ix (hu1 hr) (ea_frz (en_lst (el_cons ea_int (el_cons ea_int (el_cons ea_int el_nil))))) (ea_callF (kk_law_take T) (hr.mono (by decide)) T.g_law_take T.F_law_take.kp T.b_law_take (el_cons (ea_v 0) (el_cons ea_int el_nil)))))
      (ss_consA (sa_if (et_cmp (o_eq hr.units) (ea_v 2) ea_int) (ss_consA (sa_putL (ea_callF (kk_law_keys T) (hr.mono (by decide)) T.g_law_keys T.F_law_keys.kp T.b_law_keys (el_cons (ea_v 0) (el_cons (ea_v 3) (el_cons (ea_ix (hu1 hr) (ea_frz (en_lst (el_cons ea_int (el_cons ea_int (el_cons ea_int (el_cons ea_int el_nil)))))) (ea_callF (kk_law_take T) (hr.mono (by decide)) T.g_law_take T.F_law_take.kp T.b_law_take (el_cons (ea_v 0) (el_cons ea_int el_nil)))) el_nil)))) (ea_v 1) ea_int)
      (ss_oneA (sa_ret (ea_tup (el_cons (ea_ix (hu1 hr) (ea_callF (kk_law_house_rows T) (hr.mono (by decide)) T.g_law_house_rows T.F_law_house_rows.kp T.b_law_house_rows (el_cons (ea_v 0) (el_cons (ea_tup (el_cons (ea_ix (hu1 hr) (ea_v 1) ea_int) (el_cons (ea_frz (en_lst el_nil)) el_nil))) el_nil))) ea_int) (el_cons ea_str el_nil)))))) ss_nilA)
      (ss_consA (sa_if (et_cmp (o_eq hr.units) (ea_v 2) ea_int) (ss_consA (sa_set 4 sc_law_row.nd (ea_callF (kk_law_take T) (hr.mono (by decide)) T.g_law_take T.F_law_take.kp T.b_law_take (el_cons (ea_v 0) (el_cons ea_int el_nil))))
      (ss_consA (sa_set 5 sc_law_row.nd (ea_ix (hu1 hr) (ea_frz (en_lst (el_cons (ea_callF (kk_law_take T) (hr.mono (by decide)) T.g_law_take T.F_law_take.kp T.b_law_take (el_cons (ea_v 0) (el_cons ea_int el_nil))) (el_cons ea_int (el_cons ea_int el_nil))))) (ea_callF (kk_law_take T) (hr.mono (by decide)) T.g_law_take T.F_law_take.kp T.b_law_take (el_cons (ea_v 0) (el_cons ea_int el_nil)))))
      (ss_oneA (sa_ret (ea_tup (el_cons (ea_op o_add (ea_op o_add (ea_op o_add ea_str (ea_bty c_str T.m_str (el_cons (ea_v 4) el_nil))) ea_str) (ea_bty c_str T.m_str (el_cons (ea_v 5) el_nil))) (el_cons (ea_ix (hu1 hr) (ea_frz (en_lst (el_cons ea_str (el_cons ea_str el_nil)))) (ea_bty c_int T.m_int (el_cons (ea_cmp o_lt (ea_v 4) (ea_blt c_len T.m_len (el_cons (ea_ix (hu1 hr) (ea_v 1) ea_int) el_nil))) el_nil))) el_nil))))))) ss_nilA)
      (ss_consA (sa_if (ET.of_w (ew_and (et_cmp (o_eq hr.units) (ea_v 2) ea_int) (ew_and1 (et_cmp (o_eq hr.units) (ea_callF (kk_law_take T) (hr.mono (by decide)) T.g_law_take T.F_law_take.kp T.b_law_take (el_cons (ea_v 0) (el_cons ea_int el_nil))) ea_int)))) (ss_consA (sa_putL (ea_frz (en_lst el_nil)) (ea_v 1) ea_int)
      (ss_consA (sa_putL (ea_frz (en_lst el_nil)) (ea_v 1) ea_int)
      (ss_oneA (sa_ret (ea_tup (el_cons ea_str (el_cons ea_str el_nil))))))) ss_nilA)
      (ss_consA (sa_set 6 sc_law_row.nd (ea_callF (kk_law_keys T) (hr.mono (by decide)) T.g_law_keys T.F_law_keys.kp T.b_law_keys (el_cons (ea_v 0) (el_cons (ea_v 3) (el_cons (ea_ix (hu1 hr) (ea_frz (en_lst (el_cons ea_int (el_cons ea_int (el_cons ea_int (el_cons ea_int el_nil)))))) (ea_callF (kk_law_take T) (hr.mono (by decide)) T.g_law_take T.F_law_take.kp T.b_law_take (el_cons (ea_v 0) (el_cons ea_int el_nil)))) el_nil)))))
      (ss_consA (sa_set 4 sc_law_row.nd (ea_tup (el_cons (ea_frz (en_blt (c_sorted rfl) T.m_sorted (el_cons (ea_frz (en_lc [("k", 7)] (lcok sc_law_row (by decide +kernel)) (IO.of (ia_range1 T.m_range (ea_op o_add ea_int (ea_callF (kk_law_take T) (hr.mono (by decide)) T.g_law_take T.F_law_take.kp T.b_law_take (el_cons (ea_v 0) (el_cons ea_int el_nil)))))) (fun _ _ _ _ _ => (gt_name 7 sc_law_row.nd)) (fun _ _ _ _ _ _ => (ea_callF (kk_law_kind T) (hr.mono (by decide)) T.g_law_kind T.F_law_kind.kp T.b_law_kind (el_cons (ea_v 0) (el_cons (ea_v 3) el_nil)))))) el_nil))) (el_cons (ea_v 6) el_nil))))
      (ss_consA (sa_set 8 sc_law_row.nd (ea_ix (hu1 hr) (ea_callF (kk_law_house_rows T) (hr.mono (by decide)) T.g_law_house_rows T.F_law_house_rows.kp T.b_law_house_rows (el_cons (ea_v 0) (el_cons (ea_tup (el_cons (ea_frz (en_lst el_nil)) (el_cons (ea_frz (en_lst (el_cons (ea_v 4) el_nil))) el_nil))) el_nil))) ea_int))
      (ss_consA (sa_if (et_cmp (o_eq hr.units) (ea_blt c_len T.m_len (el_cons (ea_ix (hu1 hr) (ea_v 1) ea_int) el_nil)) ea_int) (ss_oneA (sa_ret (ea_tup (el_cons (ea_v 8) (el_cons ea_str el_nil))))) ss_nilA)
      (ss_consA (sa_putL (ea_op o_add (ea_ix (hu1 hr) (ea_v 1) ea_int) (ea_frz (en_lst (el_cons (ea_v 4) el_nil)))) (ea_v 1) ea_int)
      (ss_oneA (sa_ret (ea_tup (el_cons (ea_v 8) (el_cons ea_str el_nil)))))))))))))))
def tt_law_as_kept (O : OT) (m : Nat) : TSA := (seqA (setA 2 (tupA (consL (opA ixA (varA 1) (cstA (.int 0))) (consL (opA ixA (varA 1) (cstA (.int 1))) nilL))))
    (seqA (ifA (orA (opT (eqT true) (methF O.desk "say" (TT_Desk_say_n O) (varA 0) (consL (cstA (.str "show")) nilL)) (joinA (cstA (.str "; ")) (callF TT_law_lines (consL (varA 2) nilL)))) (opT (eqT true) (methF O.desk "say" (TT_Desk_say_n O) (varA 0) (consL (cstA (.str "rooms")) nilL)) (bltA strA (consL (bltA lenA (consL (opA ixA (varA 1) (cstA (.int 1))) nilL)) nilL)))) (retA (cstA (.bool false))) nextA)
    (seqA (ifA (orA (opT (eqT true) (methF O.desk "say" (TT_Desk_say_n O) (varA 0) (consL (cstA (.str "gone")) nilL)) (cstA (.str "none"))) (opT (eqT true) (methF O.desk "say" (TT_Desk_say_n O) (varA 0) (consL (cstA (.str "hand")) nilL)) (callF TT_law_keys_written (consL (opA ixA (varA 1) (cstA (.int 0))) nilL)))) (retA (cstA (.bool false))) nextA)
    (retA (boolA (opT (eqT false) (methF O.desk "say" (TT_Desk_say_n O) (varA 0) (consL (cstA (.str "next")) nilL)) (callF TT_law_words (consL (callF TT_law_next (consL (varA 2) (consL (frzA (lstN nilL)) nilL))) nilL))))))))
def TT_law_as_kept (O : OT) : SpT := bodyT 1 (tt_law_as_kept O)
theorem kk_law_as_kept {P : Program} {w : World} {K : PySem.W.Frag} {mg : Str → Option Value} {base : Heap} (T : Tx K mg w) : FnOk P w K mg base CX0 10 T.f_law_as_kept T.d_law_as_kept ["desk", "state"] (spA 2 (TT_law_as_kept T.O)) :=
  okA T.F_law_as_kept sc_law_as_kept fun cdv A outer s H E B hr =>
    (ss_consA (sa_set 2 sc_law_as_kept.nd (ea_tup (el_cons (ea_ix (hu1 hr) (ea_v 1) ea_int) (el_cons (ea_ix (hu1 hr) (ea_v 1) ea_int) el_nil))))
      (ss_consA (sa_if (ET.of_w (ew_or (et_cmp (o_ne hr.units) (ea_methF T.c_Desk T.me_Desk_say (kk_Desk_say_n T) (hr.mono (by decide)) T.b_Desk_say (ea_v 0) (el_cons ea_str el_nil)) (ea_join ea_str (ea_callF (kk_law_lines T) (hr.mono (by decide)) T.g_law_lines T.F_law_lines.kp T.b_law_lines (el_cons (ea_v 2) el_nil)))) (ew_or1 (et_cmp (o_ne hr.units) (ea_methF T.c_Desk T.me_Desk_say (kk_Desk_say_n T) (hr.mono (by decide)) T.b_Desk_say (ea_v 0) (el_cons ea_str el_nil)) (ea_bty c_str T.m_str (el_cons (ea_blt c_len T.m_len (el_cons (ea_ix (hu1 hr) (ea_v 1) ea_int) el_nil)) el_nil)))))) (ss_oneA (sa_ret ea_bool)) ss_nilA)
      (ss_consA (sa_if (ET.of_w (ew_or (et_cmp (o_ne hr.units) (ea_methF T.c_Desk T.me_Desk_say (kk_Desk_say_n T) (hr.mono (by decide)) T.b_Desk_say (ea_v 0) (el_cons ea_str el_nil)) ea_str) (ew_or1 (et_cmp (o_ne hr.units) (ea_methF T.c_Desk T.me_Desk_say (kk_Desk_say_n T) (hr.mono (by decide)) T.b_Desk_say (ea_v 0) (el_cons ea_str el_nil)) (ea_callF (kk_law_keys_written T) (hr.mono (by decide)) T.g_law_keys_written T.F_law_keys_written.kp T.b_law_keys_written (el_cons (ea_ix (hu1 hr) (ea_v 1) ea_int) el_nil)))))) (ss_oneA (sa_ret ea_bool)) ss_nilA)
      (ss_oneA (sa_ret (ea_cmp (o_eq hr.units) (ea_methF T.c_Desk T.me_Desk_say (kk_Desk_say_n T) (hr.mono (by decide)) T.b_Desk_say (ea_v 0) (el_cons ea_str el_nil)) (ea_callF (kk_law_words T) (hr.mono (by decide)) T.g_law_words T.F_law_words.kp T.b_law_words (el_cons (ea_callF (kk_law_next T) (hr.mono (by decide)) T.g_law_next T.F_law_next.kp T.b_law_next (el_cons (ea_v 2) (el_cons (ea_frz (en_lst el_nil)) el_nil))) el_nil))))))))
def tt_law (K : PySem.W.Frag) (E : ExT) (O : OT) (m : Nat) : TSA := (seqA (setA 1 (makeO O.desk (TT_Desk_init O) nilL))
    (seqA (setA 2 (makeO O.desk (TT_Desk_init O) nilL))
    (seqA (ifA (notA (valA (callF (TT_law_as_kept O) (consL (varA 1) (consL (frzA (lstN (consL (frzA (lstN nilL)) (consL (frzA (lstN nilL)) nilL)))) nilL))))) (retA (cstA (.bool false))) nextA)
    (seqA (setA 3 (callF TT_law_house (consL (callO TT_law_deck (consL (callF (TT_law_cell_at K) (consL (varA 0) (consL (cstA (.int 0)) nilL))) (consL (cstA (.int 120)) nilL))) (consL (cstA (.int 3)) (consL (cstA (.int 2)) nilL)))))
    (seqA (forA m (iterL (callF TT_law_house_rows (consL (ownA (opN repN (frzA (lstN (consL (cstA (.int 1)) nilL))) (cstA (.int 9)))) (consL (varA 3) nilL)))) (nameG 4) (ifA (opT (eqT true) (methF O.desk "say" (TT_Desk_say_n O) (varA 2) (consL (varA 4) nilL)) (cstA (.str "ok"))) (retA (cstA (.bool false))) nextA))
    (seqA (setA 5 (ownA (lstN (consL (frzA (lstN nilL)) (consL (frzA (lstN nilL)) nilL)))))
    (seqA (forA m (iterR2 (cstA (.int 1)) (bltA maxA (consL (cstA (.int 2)) (consL (bltA minA (consL (scrLen K 0) (consL (cstA (.int 20)) nilL))) nilL)))) (nameG 6) (seqA (setA 7 (callO TT_law_deck (consL (callF (TT_law_cell_at K) (consL (varA 0) (consL (varA 6) nilL))) (consL (cstA (.int 120)) nilL))))
    (seqA (asgA (callF TT_law_row (consL (varA 7) (consL (varA 5) nilL))) (tup2G (nameG 4) (nameG 8)))
    (ifA (orA (opT (eqT true) (callF (TT_law_said E O) (consL (varA 1) (consL (varA 4) nilL))) (varA 8)) (notA (valA (callF (TT_law_as_kept O) (consL (varA 1) (consL (varA 5) nilL)))))) (retA (cstA (.bool false))) nextA))))
    (retA (callO (TT_law_as_kept O) (consL (varA 2) (consL (frzA (lstN (consL (opA ixA (varA 3) (cstA (.int 0))) (consL (opA ixA (varA 3) (cstA (.int 1))) nilL)))) nilL)))))))))))
def TT_law (K : PySem.W.Frag) (E : ExT) (O : OT) : SpT := bodyT 8 (tt_law K E O)
theorem kk_law {P : Program} {w : World} {K : PySem.W.Frag} {mg : Str → Option Value} {base : Heap} (T : Tx K mg w) : FnOk P w K mg base CX0 11 T.f_law T.d_law ["script"] (spA 1 (TT_law K T.E T.O)) :=
  okA T.F_law sc_law fun cdv A outer s H E B hr =>
    (ss_consA (sa_set 1 sc_law.nd (ea_make0 T.mk_Desk (kk_Desk_init T) (hr.mono (by decide)) T.g_Desk T.b_Desk_init))
      (ss_consA (sa_set 2 sc_law.nd (ea_make0 T.mk_Desk (kk_Desk_init T) (hr.mono (by decide)) T.g_Desk T.b_Desk_init))
      (ss_consA (sa_if (et_not (et_val (ea_callF (kk_law_as_kept T) (hr.mono (by decide)) T.g_law_as_kept T.F_law_as_kept.kp T.b_law_as_kept (el_cons (ea_v 1) (el_cons (ea_frz (en_lst (el_cons (ea_frz (en_lst el_nil)) (el_cons (ea_frz (en_lst el_nil)) el_nil)))) el_nil))))) (ss_oneA (sa_ret ea_bool)) ss_nilA)
      (ss_consA (sa_set 3 sc_law.nd (ea_callF (kk_law_house T) (hr.mono (by decide)) T.g_law_house T.F_law_house.kp T.b_law_house (el_cons (ea_callO (kk_law_deck T) (hr.mono (by decide)) T.g_law_deck T.F_law_deck.kp T.b_law_deck (el_cons (ea_callF (kk_law_cell_at T) (hr.mono (by decide)) T.g_law_cell_at T.F_law_cell_at.kp T.b_law_cell_at (el_cons (ea_v 0) (el_cons ea_int el_nil))) (el_cons ea_int el_nil))) (el_cons ea_int (el_cons ea_int el_nil)))))
      (ss_consA (sa_for PassesOwn.never rfl (ia_list (ea_callF (kk_law_house_rows T) (hr.mono (by decide)) T.g_law_house_rows T.F_law_house_rows.kp T.b_law_house_rows (el_cons (ea_own (en_op o_rep (ea_frz (en_lst (el_cons ea_int el_nil))) ea_int)) (el_cons (ea_v 3) el_nil)))) (gt_name 4 sc_law.nd) (fun _ _ => (ss_oneA (sa_if (et_cmp (o_ne hr.units) (ea_methF T.c_Desk T.me_Desk_say (kk_Desk_say_n T) (hr.mono (by decide)) T.b_Desk_say (ea_v 2) (el_cons (ea_v 4) el_nil)) ea_str) (ss_oneA (sa_ret ea_bool)) ss_nilA))))
      (ss_consA (sa_set 5 sc_law.nd (ea_own (en_lst (el_cons (ea_frz (en_lst el_nil)) (el_cons (ea_frz (en_lst el_nil)) el_nil)))))
      (ss_consA (sa_for PassesOwn.never rfl (ia_range2 T.m_range ea_int (ea_blt (c_max rfl) T.m_max (el_cons ea_int (el_cons (ea_blt (c_min rfl) T.m_min (el_cons (ea_scrLen 0 T.m_len) (el_cons ea_int el_nil))) el_nil)))) (gt_name 6 sc_law.nd) (fun _ _ => (ss_consA (sa_set 7 sc_law.nd (ea_callO (kk_law_deck T) (hr.mono (by decide)) T.g_law_deck T.F_law_deck.kp T.b_law_deck (el_cons (ea_callF (kk_law_cell_at T) (hr.mono (by decide)) T.g_law_cell_at T.F_law_cell_at.kp T.b_law_cell_at (el_cons (ea_v 0) (el_cons (ea_v 6) el_nil))) (el_cons ea_int el_nil))))
      (ss_consA (sa_asg (ea_callF (kk_law_row T) (hr.mono (by decide)) T.g_law_row T.F_law_row.kp T.b_law_row (el_cons (ea_v 7) (el_cons (ea_v 5) el_nil))) (gt_tup2 rfl (gt_name 4 sc_law.nd) (gt_name 8 sc_law.nd)))
      (ss_oneA (sa_if (ET.of_w (ew_or (et_cmp (o_ne hr.units) (ea_callF (kk_law_said T) (hr.mono (by decide)) T.g_law_said T.F_law_said.kp T.b_law_said (el_cons (ea_v 1) (el_cons (ea_v 4) el_nil))) (ea_v 8)) (ew_or1 (et_not (et_val (ea_callF (kk_law_as_kept T) (hr.mono (by decide)) T.g_law_as_kept T.F_law_as_kept.kp T.b_law_as_kept (el_cons (ea_v 1) (el_cons (ea_v 5) el_nil)))))))) (ss_oneA (sa_ret ea_bool)) ss_nilA))))))
      (ss_oneA (sa_ret (ea_callO (kk_law_as_kept T) (hr.mono (by decide)) T.g_law_as_kept T.F_law_as_kept.kp T.b_law_as_kept (el_cons (ea_v 2) (el_cons (ea_frz (en_lst (el_cons (ea_ix (hu1 hr) (ea_v 3) ea_int) (el_cons (ea_ix (hu1 hr) (ea_v 3) ea_int) el_nil)))) el_nil))))))))))))
local macro_rules
  | `(tactic| simp_arith [$ls,*] $[$loc]?) => `(tactic| simp only [$ls,*, bodyT, retA, boolA, nilT, frzA, ownA, lcN, iterL, ioT, iterE, iterR1, iterR2, varA, nameG, opT, opA, opN, cstA, mtL, mtL0, consL, nilL, setA, seqA, dropA, forA, bltA, bltN, asgA, ifA, nextA, retN, andA, orA, notA, valA, andV, orV, notV, ifV, tupA, lstN, putS, augS, callF, callO, callW, intOp, intOp0, intT, subA, modA, fdivA, leT, gtT, geT, eqT, catN, repN, chainT, negA, joinA, ssetN, slHi, slLo, slHiN, slLoN, slN, listN, sumA, minA, maxA, isiT, appendA, extendA, removeA, popA, popAtA, clearA, countA, newD, retD, neverA, yesA, lcStep, refsOf, subC, putC, datas, wipeA, ksD, roomD, houseD, retP_d, retP_rE, addA_int, addA_str, addA_lst, addA_r, mulA_int, mulA_lst, mulA_r, ltT_str, ltT_int, ixA_V, slA_V, inT_V, tup2G_V, tup3G_V, lenA_V, sortedN_V, getA2_V, isDct_V, onLst_r, onDct_r, intA_int, intA_bool, fzA_V, resF_f, resF_n, resO_f, resO_n, listOf_r, listOf_d, fzList_r, fzList_d, isLst_r, isLst_d, view_r, view_d, viewD_list, viewD_tuple, viewD_str, viewD_dictD, tyOf_r, tyOf_d, tupOf_r, tupOf_d, tupOf_dl, tupC_lst, tupC_fzl, scrLen_0, iterO_V, eqOk_int, eqOk_str, eqOk_bool, eqv_int, eqv_str, eqv_bool, kb_ll, kb_ii, kb_ib, kb_bb, kb_bi, kb_ss, kb_tt, kb_dd, AVal.int?_int, AVal.str?_str, AVal.bool?_bool, AVal.data?_d, flatD_strs, flatD_ints, flatD_nats, inD_str, inD_int, inD_nat, onSome_some, List.map_cons, List.map_nil, List.cons_append, List.nil_append, List.append_nil, List.replicate_succ, List.replicate_zero, List.getElem?_cons_zero, List.getElem?_cons_succ, Option.bind_some, Option.bind_none, Option.map_some, Option.getD_some, id_eq, List.set_cons_zero, List.set_cons_succ, List.length_cons, List.length_nil, List.take_succ_cons, List.take_zero, List.take_nil, List.idxOf_cons_self, List.length_map, strs?_map, ints?_map, atI_0, atI_1, atI_2, atI_map, srtD_strs, srtD_ints, true_and, and_true, List.all_nil, List.all_cons, Bool.and_self, Bool.and_true, Bool.true_and, List.nodup_nil, nodup1, forall_const, Bool.bne_false, Bool.bne_true, List.isEmpty_nil, Bool.not_true, Bool.not_false, Nat.zero_add, Nat.le_refl, Nat.zero_le, decide_true, decide_false, eq_self, Bool.false_eq_true, Bool.true_eq_false, if_true, if_false, true_implies, Bool.false_and, Bool.and_false, Bool.not_eq_true, Bool.or_false, Bool.or_true, Bool.false_or, Bool.true_or, ixV_seq, ixV_dct, ixV_txt, slV_txt, slV_seq, inV'_dct, inV'_txt, inV'_seq, tup2V_2, tup3V_3, lenV_seq, lenV_dct, lenV_txt, sortV_dct, sortV_seq, gotV_dct, isDctV_dct, lstC_lst, dctC_dK, fzV_r, fzV_d, fzC_fz, fzC_lst, fzC_dK, listC_lst, listC_fz, fzListC_fz, isLstC_lst, isLstC_fz, isLstC_nl, viewC_lst, viewC_nl, viewC_nt, viewC_dK, viewC_nd, viewC_fz, tyC_lst, tyC_dK, tyC_fz, tupC_nt, tupC_fz, iterOV_r, iterOV_d, iterOC_lst, iterOC_fz, retC_fz, retC_lst, retC_dK, retC_pool, one_1, two_2, ren_r, ren_d, ren_s, frzC_lst, frzC_dK, frzC_fz, dataOf_d, dataOf_r, flat_lst, flat_dK, flat_pool, flat_fz, key?_int, key?_str, tyN_list, tyN_int, tyN_bool, tyN_str, tyN_tuple, tyN_dictD, tyN_none, flatD_int, flatD_str, eqDT, dictN, clearD, iterT, tupL_tup, dctOf_d, dctOf_r, dkC_dK, dkC_dl, dkC_fz, dctD_dictD, keysOf_dictD, forDA, forDV_d, forDV_r, forDC_dK, viewC_dl, okG, DA.unl, iterD, keysV_d, forHA, iterH, ihV_d, ihV_r, ihC_lst, ihC_fz, DA.okN, pass_lst, pass_dK, pass_pool, pass_fz, pass_tr, flat_tr, flat_gone, cellD_lst, cellD_dK, cellD_fz, cellD_tr, listC_tr, listOf_a, leafL_l, isLstC_tr, isLst_a, viewC_tr, viewT_l, viewT_t, viewT_d, view_a, nodeAt_a, nodeAt_r, tyC_tr, tyOf_a, kdTy_lst, kdTy_tup, kdTy_dct, ren_a, addA_a, resO_t, resO_p, retC_tr, retC_nt, parts, newsOf, partN, resU, backs, backN, callU, two2, dspT, appendT, clearT, extendT, putL, putLV, putLC, putT, onT, treeAt, treeC, fzT, fzTV, fzTC, bodyT0, insertA, revN, mulX_int, mulX_str, mulX_lst, mulX_r, grabs, grab, grabC, asT, asTC, mvL, mvS_r, mvS_d, mvS_a, mvA_r, mvA_a, mvA_d, mvA_s, gone_gone, gone_fz, gone_tr, gone_lst, at_nil, at_cons, put_nil, put_cons, Option.map_none, tupR, listR1, iterOV_a, leafs_map, nodeK, nilTT, emptyV_r, emptyC_l, emptyC_t, isNT, isBT, noneV_none, noneV_list, noneV_r, tcatA, tslA, tslHi, tslLo, tupD_t, listDN_V, listDV_dct, sortedDN_1, iterKC, iterKC_r, keysC_dK, leST, lenSetA, srtVN_V, srtVV_dct, dictDN_V, dictDV_dct, txtVals_dkv, datKV_dkv, bodyTX, callXF, callXO, callWX, excP, raiseA, raiseStepA, flatX_int, flatX_none, tryK, isiX, isiXT, atX, reprXA, tupleA, countBA, indexA, dat?_d, exOf_errE, bools?_nil, bools?_cons, noneV_err, List.any_cons, List.any_nil, sx_house_NoHouse, sx_house_NoPlain, sx_house_NoOrder, sx_house_NoNumber, sx_house_NoKind, sx_house_TooMany, sx_house_NoText, sx_house_NoRow, sx_house_NoStep, sx_house_KeyroomError, sx_house_ValueError, sx_house_KeyError, sx_plain_NoHouse, sx_plain_NoPlain, sx_plain_NoOrder, sx_plain_NoNumber, sx_plain_NoKind, sx_plain_TooMany, sx_plain_NoText, sx_plain_NoRow, sx_plain_NoStep, sx_plain_KeyroomError, sx_plain_ValueError, sx_plain_KeyError, sx_order_NoHouse, sx_order_NoPlain, sx_order_NoOrder, sx_order_NoNumber, sx_order_NoKind, sx_order_TooMany, sx_order_NoText, sx_order_NoRow, sx_order_NoStep, sx_order_KeyroomError, sx_order_ValueError, sx_order_KeyError, sx_number_NoHouse, sx_number_NoPlain, sx_number_NoOrder, sx_number_NoNumber, sx_number_NoKind, sx_number_TooMany, sx_number_NoText, sx_number_NoRow, sx_number_NoStep, sx_number_KeyroomError, sx_number_ValueError, sx_number_KeyError, sx_kind_NoHouse, sx_kind_NoPlain, sx_kind_NoOrder, sx_kind_NoNumber, sx_kind_NoKind, sx_kind_TooMany, sx_kind_NoText, sx_kind_NoRow, sx_kind_NoStep, sx_kind_KeyroomError, sx_kind_ValueError, sx_kind_KeyError, sx_many_NoHouse, sx_many_NoPlain, sx_many_NoOrder, sx_many_NoNumber, sx_many_NoKind, sx_many_TooMany, sx_many_NoText, sx_many_NoRow, sx_many_NoStep, sx_many_KeyroomError, sx_many_ValueError, sx_many_KeyError, sx_text_NoHouse, sx_text_NoPlain, sx_text_NoOrder, sx_text_NoNumber, sx_text_NoKind, sx_text_TooMany, sx_text_NoText, sx_text_NoRow, sx_text_NoStep, sx_text_KeyroomError, sx_text_ValueError, sx_text_KeyError, sx_row_NoHouse, sx_row_NoPlain, sx_row_NoOrder, sx_row_NoNumber, sx_row_NoKind, sx_row_TooMany, sx_row_NoText, sx_row_NoRow, sx_row_NoStep, sx_row_KeyroomError, sx_row_ValueError, sx_row_KeyError, sx_step_NoHouse, sx_step_NoPlain, sx_step_NoOrder, sx_step_NoNumber, sx_step_NoKind, sx_step_TooMany, sx_step_NoText, sx_step_NoRow, sx_step_NoStep, sx_step_KeyroomError, sx_step_ValueError, sx_step_KeyError, mulSA_str, mulSA_list, reprXA, dat?_d, stripCA, dictEnumN, makeO, methF, methO, attrA, objAt, objN_o, kidsAt, valT_d, valT_nd, valT_k, setFA, setO_none, setO_some, bitsA, augN, dispA, iterP, forPA, pkI, pkV, pkF, dcAt, dcN_k, viewT_k, zip_kids, zip_kv, dctK, dispTT, slLH, putN, tupleA, iterTx, bodyTI, retI, AVal.isD, getTT, putTO, dispTO, sortLRN, inTup, sortedTN_1, tupD_t, sortedBN_1, sortedBV_d, methXF, tup4G_V, tup4V_4] $[$loc]?)
local macro_rules
  | `(tactic| simp_arith! [$ls,*]) => `(tactic| simp only [$ls,*, bodyT, retA, boolA, nilT, frzA, ownA, lcN, iterL, ioT, iterE, iterR1, iterR2, varA, nameG, opT, opA, opN, cstA, mtL, mtL0, consL, nilL, setA, dropA, forA, bltA, bltN, asgA, ifA, nextA, retN, andA, orA, notA, valA, andV, orV, notV, ifV, tupA, lstN, putS, augS, callF, callO, callW, intOp, intOp0, intT, subA, modA, fdivA, leT, gtT, geT, eqT, catN, repN, chainT, negA, joinA, ssetN, slHi, slLo, slHiN, slLoN, slN, listN, sumA, minA, maxA, isiT, appendA, extendA, removeA, popA, popAtA, clearA, countA, newD, retD, neverA, yesA, lcStep, refsOf, subC, putC, datas, wipeA, ksD, roomD, houseD, retP_d, retP_rE, addA_int, addA_str, addA_lst, addA_r, mulA_int, mulA_lst, mulA_r, ltT_str, ltT_int, ixA_V, slA_V, inT_V, tup2G_V, tup3G_V, lenA_V, sortedN_V, getA2_V, isDct_V, onLst_r, onDct_r, intA_int, intA_bool, fzA_V, resF_f, resF_n, resO_f, resO_n, listOf_r, listOf_d, fzList_r, fzList_d, isLst_r, isLst_d, view_r, view_d, viewD_list, viewD_tuple, viewD_str, viewD_dictD, tyOf_r, tyOf_d, tupOf_r, tupOf_d, tupOf_dl, tupC_lst, tupC_fzl, scrLen_0, iterO_V, eqOk_int, eqOk_str, eqOk_bool, eqv_int, eqv_str, eqv_bool, kb_ll, kb_ii, kb_ib, kb_bb, kb_bi, kb_ss, kb_tt, kb_dd, AVal.int?_int, AVal.str?_str, AVal.bool?_bool, AVal.data?_d, flatD_strs, flatD_ints, flatD_nats, inD_str, inD_int, inD_nat, onSome_some, List.map_cons, List.map_nil, List.cons_append, List.nil_append, List.append_nil, List.replicate_succ, List.replicate_zero, List.getElem?_cons_zero, List.getElem?_cons_succ, Option.bind_some, Option.bind_none, Option.map_some, Option.getD_some, id_eq, List.set_cons_zero, List.set_cons_succ, List.length_cons, List.length_nil, List.take_succ_cons, List.take_zero, List.take_nil, List.idxOf_cons_self, List.length_map, strs?_map, ints?_map, atI_0, atI_1, atI_2, atI_map, srtD_strs, srtD_ints, true_and, and_true, List.all_nil, List.all_cons, Bool.and_self, Bool.and_true, Bool.true_and, List.nodup_nil, nodup1, forall_const, Bool.bne_false, Bool.bne_true, List.isEmpty_nil, Bool.not_true, Bool.not_false, Nat.zero_add, Nat.le_refl, Nat.zero_le, decide_true, decide_false, eq_self, Bool.false_eq_true, Bool.true_eq_false, if_true, if_false, true_implies, Bool.false_and, Bool.and_false, Bool.not_eq_true, Bool.or_false, Bool.or_true, Bool.false_or, Bool.true_or, ixV_seq, ixV_dct, ixV_txt, slV_txt, slV_seq, inV'_dct, inV'_txt, inV'_seq, tup2V_2, tup3V_3, lenV_seq, lenV_dct, lenV_txt, sortV_dct, sortV_seq, gotV_dct, isDctV_dct, lstC_lst, dctC_dK, fzV_r, fzV_d, fzC_fz, fzC_lst, fzC_dK, listC_lst, listC_fz, fzListC_fz, isLstC_lst, isLstC_fz, isLstC_nl, viewC_lst, viewC_nl, viewC_nt, viewC_dK, viewC_nd, viewC_fz, tyC_lst, tyC_dK, tyC_fz, tupC_nt, tupC_fz, iterOV_r, iterOV_d, iterOC_lst, iterOC_fz, retC_fz, retC_lst, retC_dK, retC_pool, one_1, two_2, ren_r, ren_d, ren_s, frzC_lst, frzC_dK, frzC_fz, dataOf_d, dataOf_r, flat_lst, flat_dK, flat_pool, flat_fz, key?_int, key?_str, tyN_list, tyN_int, tyN_bool, tyN_str, tyN_tuple, tyN_dictD, tyN_none, flatD_int, flatD_str, eqDT, dictN, clearD, iterT, tupL_tup, dctOf_d, dctOf_r, dkC_dK, dkC_dl, dkC_fz, dctD_dictD, keysOf_dictD, forDA, forDV_d, forDV_r, forDC_dK, viewC_dl, okG, DA.unl, iterD, keysV_d, forHA, iterH, ihV_d, ihV_r, ihC_lst, ihC_fz, DA.okN, pass_lst, pass_dK, pass_pool, pass_fz, pass_tr, flat_tr, flat_gone, cellD_lst, cellD_dK, cellD_fz, cellD_tr, listC_tr, listOf_a, leafL_l, isLstC_tr, isLst_a, viewC_tr, viewT_l, viewT_t, viewT_d, view_a, nodeAt_a, nodeAt_r, tyC_tr, tyOf_a, kdTy_lst, kdTy_tup, kdTy_dct, ren_a, addA_a, resO_t, resO_p, retC_tr, retC_nt, parts, newsOf, partN, resU, backs, backN, callU, two2, dspT, appendT, clearT, extendT, putL, putLV, putLC, putT, onT, treeAt, treeC, fzT, fzTV, fzTC, bodyT0, insertA, revN, mulX_int, mulX_str, mulX_lst, mulX_r, grabs, grab, grabC, asT, asTC, mvL, mvS_r, mvS_d, mvS_a, mvA_r, mvA_a, mvA_d, mvA_s, gone_gone, gone_fz, gone_tr, gone_lst, at_nil, at_cons, put_nil, put_cons, Option.map_none, tupR, listR1, iterOV_a, leafs_map, nodeK, nilTT, emptyV_r, emptyC_l, emptyC_t, isNT, isBT, noneV_none, noneV_list, noneV_r, tcatA, tslA, tslHi, tslLo, tupD_t, listDN_V, listDV_dct, sortedDN_1, iterKC, iterKC_r, keysC_dK, leST, lenSetA, srtVN_V, srtVV_dct, dictDN_V, dictDV_dct, txtVals_dkv, datKV_dkv, bodyTX, callXF, callXO, callWX, excP, raiseA, raiseStepA, flatX_int, flatX_none, tryK, isiX, isiXT, atX, reprXA, tupleA, countBA, indexA, dat?_d, exOf_errE, bools?_nil, bools?_cons, noneV_err, List.any_cons, List.any_nil, sx_house_NoHouse, sx_house_NoPlain, sx_house_NoOrder, sx_house_NoNumber, sx_house_NoKind, sx_house_TooMany, sx_house_NoText, sx_house_NoRow, sx_house_NoStep, sx_house_KeyroomError, sx_house_ValueError, sx_house_KeyError, sx_plain_NoHouse, sx_plain_NoPlain, sx_plain_NoOrder, sx_plain_NoNumber, sx_plain_NoKind, sx_plain_TooMany, sx_plain_NoText, sx_plain_NoRow, sx_plain_NoStep, sx_plain_KeyroomError, sx_plain_ValueError, sx_plain_KeyError, sx_order_NoHouse, sx_order_NoPlain, sx_order_NoOrder, sx_order_NoNumber, sx_order_NoKind, sx_order_TooMany, sx_order_NoText, sx_order_NoRow, sx_order_NoStep, sx_order_KeyroomError, sx_order_ValueError, sx_order_KeyError, sx_number_NoHouse, sx_number_NoPlain, sx_number_NoOrder, sx_number_NoNumber, sx_number_NoKind, sx_number_TooMany, sx_number_NoText, sx_number_NoRow, sx_number_NoStep, sx_number_KeyroomError, sx_number_ValueError, sx_number_KeyError, sx_kind_NoHouse, sx_kind_NoPlain, sx_kind_NoOrder, sx_kind_NoNumber, sx_kind_NoKind, sx_kind_TooMany, sx_kind_NoText, sx_kind_NoRow, sx_kind_NoStep, sx_kind_KeyroomError, sx_kind_ValueError, sx_kind_KeyError, sx_many_NoHouse, sx_many_NoPlain, sx_many_NoOrder, sx_many_NoNumber, sx_many_NoKind, sx_many_TooMany, sx_many_NoText, sx_many_NoRow, sx_many_NoStep, sx_many_KeyroomError, sx_many_ValueError, sx_many_KeyError, sx_text_NoHouse, sx_text_NoPlain, sx_text_NoOrder, sx_text_NoNumber, sx_text_NoKind, sx_text_TooMany, sx_text_NoText, sx_text_NoRow, sx_text_NoStep, sx_text_KeyroomError, sx_text_ValueError, sx_text_KeyError, sx_row_NoHouse, sx_row_NoPlain, sx_row_NoOrder, sx_row_NoNumber, sx_row_NoKind, sx_row_TooMany, sx_row_NoText, sx_row_NoRow, sx_row_NoStep, sx_row_KeyroomError, sx_row_ValueError, sx_row_KeyError, sx_step_NoHouse, sx_step_NoPlain, sx_step_NoOrder, sx_step_NoNumber, sx_step_NoKind, sx_step_TooMany, sx_step_NoText, sx_step_NoRow, sx_step_NoStep, sx_step_KeyroomError, sx_step_ValueError, sx_step_KeyError, mulSA_str, mulSA_list, reprXA, dat?_d, stripCA, dictEnumN, makeO, methF, methO, attrA, objAt, objN_o, kidsAt, valT_d, valT_nd, valT_k, setFA, setO_none, setO_some, bitsA, augN, dispA, iterP, forPA, pkI, pkV, pkF, dcAt, dcN_k, viewT_k, zip_kids, zip_kv, dctK, dispTT, slLH, putN, tupleA, iterTx, bodyTI, retI, AVal.isD, getTT, putTO, dispTO, sortLRN, inTup, sortedTN_1, tupD_t, sortedBN_1, sortedBV_d, methXF, tup4G_V, tup4V_4, seq_set, seq_drop, seq_asg, seq_callU, seq_putS, seq_putL, seq_for, seq_next, seq_aug, seq_seq, seq_forD, seq_forH])
local macro_rules
  | `(tactic| simp_all_arith [$ls,*]) => `(tactic| simp only [$ls,*, bodyT, retA, boolA, nilT, frzA, ownA, lcN, iterL, ioT, iterE, iterR1, iterR2, varA, nameG, opT, opA, opN, cstA, mtL, mtL0, consL, nilL, setA, seqA, dropA, forA, bltA, bltN, asgA, ifA, nextA, retN, andA, orA, notA, valA, andV, orV, notV, ifV, tupA, lstN, putS, augS, callF, callO, callW, intOp, intOp0, intT, subA, modA, fdivA, leT, gtT, geT, eqT, catN, repN, chainT, negA, joinA, ssetN, slHi, slLo, slHiN, slLoN, slN, listN, sumA, minA, maxA, isiT, appendA, extendA, removeA, popA, popAtA, clearA, countA, newD, retD, neverA, yesA, lcStep, refsOf, subC, putC, datas, wipeA, ksD, roomD, houseD, retP_d, retP_rE, addA_int, addA_str, addA_lst, addA_r, mulA_int, mulA_lst, mulA_r, ltT_str, ltT_int, ixA_V, slA_V, inT_V, tup2G_V, tup3G_V, lenA_V, sortedN_V, getA2_V, isDct_V, onLst_r, onDct_r, intA_int, intA_bool, fzA_V, resF_f, resF_n, resO_f, resO_n, listOf_r, listOf_d, fzList_r, fzList_d, isLst_r, isLst_d, view_r, view_d, viewD_list, viewD_tuple, viewD_str, viewD_dictD, tyOf_r, tyOf_d, tupOf_r, tupOf_d, tupOf_dl, tupC_lst, tupC_fzl, scrLen_0, iterO_V, eqOk_int, eqOk_str, eqOk_bool, eqv_int, eqv_str, eqv_bool, kb_ll, kb_ii, kb_ib, kb_bb, kb_bi, kb_ss, kb_tt, kb_dd, AVal.int?_int, AVal.str?_str, AVal.bool?_bool, AVal.data?_d, flatD_strs, flatD_ints, flatD_nats, inD_str, inD_int, inD_nat, onSome_some, List.map_cons, List.map_nil, List.cons_append, List.nil_append, List.append_nil, List.replicate_succ, List.replicate_zero, List.getElem?_cons_zero, List.getElem?_cons_succ, Option.bind_some, Option.bind_none, Option.map_some, Option.getD_some, id_eq, List.set_cons_zero, List.set_cons_succ, List.length_cons, List.length_nil, List.take_succ_cons, List.take_zero, List.take_nil, List.idxOf_cons_self, List.length_map, strs?_map, ints?_map, atI_0, atI_1, atI_2, atI_map, srtD_strs, srtD_ints, true_and, and_true, List.all_nil, List.all_cons, Bool.and_self, Bool.and_true, Bool.true_and, List.nodup_nil, nodup1, forall_const, Bool.bne_false, Bool.bne_true, List.isEmpty_nil, Bool.not_true, Bool.not_false, Nat.zero_add, Nat.le_refl, Nat.zero_le, decide_true, decide_false, eq_self, Bool.false_eq_true, Bool.true_eq_false, if_true, if_false, true_implies, Bool.false_and, Bool.and_false, Bool.not_eq_true, Bool.or_false, Bool.or_true, Bool.false_or, Bool.true_or, ixV_seq, ixV_dct, ixV_txt, slV_txt, slV_seq, inV'_dct, inV'_txt, inV'_seq, tup2V_2, tup3V_3, lenV_seq, lenV_dct, lenV_txt, sortV_dct, sortV_seq, gotV_dct, isDctV_dct, lstC_lst, dctC_dK, fzV_r, fzV_d, fzC_fz, fzC_lst, fzC_dK, listC_lst, listC_fz, fzListC_fz, isLstC_lst, isLstC_fz, isLstC_nl, viewC_lst, viewC_nl, viewC_nt, viewC_dK, viewC_nd, viewC_fz, tyC_lst, tyC_dK, tyC_fz, tupC_nt, tupC_fz, iterOV_r, iterOV_d, iterOC_lst, iterOC_fz, retC_fz, retC_lst, retC_dK, retC_pool, one_1, two_2, ren_r, ren_d, ren_s, frzC_lst, frzC_dK, frzC_fz, dataOf_d, dataOf_r, flat_lst, flat_dK, flat_pool, flat_fz, key?_int, key?_str, tyN_list, tyN_int, tyN_bool, tyN_str, tyN_tuple, tyN_dictD, tyN_none, flatD_int, flatD_str, eqDT, dictN, clearD, iterT, tupL_tup, dctOf_d, dctOf_r, dkC_dK, dkC_dl, dkC_fz, dctD_dictD, keysOf_dictD, forDA, forDV_d, forDV_r, forDC_dK, viewC_dl, okG, DA.unl, iterD, keysV_d, forHA, iterH, ihV_d, ihV_r, ihC_lst, ihC_fz, DA.okN, pass_lst, pass_dK, pass_pool, pass_fz, pass_tr, flat_tr, flat_gone, cellD_lst, cellD_dK, cellD_fz, cellD_tr, listC_tr, listOf_a, leafL_l, isLstC_tr, isLst_a, viewC_tr, viewT_l, viewT_t, viewT_d, view_a, nodeAt_a, nodeAt_r, tyC_tr, tyOf_a, kdTy_lst, kdTy_tup, kdTy_dct, ren_a, addA_a, resO_t, resO_p, retC_tr, retC_nt, parts, newsOf, partN, resU, backs, backN, callU, two2, dspT, appendT, clearT, extendT, putL, putLV, putLC, putT, onT, treeAt, treeC, fzT, fzTV, fzTC, bodyT0, insertA, revN, mulX_int, mulX_str, mulX_lst, mulX_r, grabs, grab, grabC, asT, asTC, mvL, mvS_r, mvS_d, mvS_a, mvA_r, mvA_a, mvA_d, mvA_s, gone_gone, gone_fz, gone_tr, gone_lst, at_nil, at_cons, put_nil, put_cons, Option.map_none, tupR, listR1, iterOV_a, leafs_map, nodeK, nilTT, emptyV_r, emptyC_l, emptyC_t, isNT, isBT, noneV_none, noneV_list, noneV_r, tcatA, tslA, tslHi, tslLo, tupD_t, listDN_V, listDV_dct, sortedDN_1, iterKC, iterKC_r, keysC_dK, leST, lenSetA, srtVN_V, srtVV_dct, dictDN_V, dictDV_dct, txtVals_dkv, datKV_dkv, bodyTX, callXF, callXO, callWX, excP, raiseA, raiseStepA, flatX_int, flatX_none, tryK, isiX, isiXT, atX, reprXA, tupleA, countBA, indexA, dat?_d, exOf_errE, bools?_nil, bools?_cons, noneV_err, List.any_cons, List.any_nil, sx_house_NoHouse, sx_house_NoPlain, sx_house_NoOrder, sx_house_NoNumber, sx_house_NoKind, sx_house_TooMany, sx_house_NoText, sx_house_NoRow, sx_house_NoStep, sx_house_KeyroomError, sx_house_ValueError, sx_house_KeyError, sx_plain_NoHouse, sx_plain_NoPlain, sx_plain_NoOrder, sx_plain_NoNumber, sx_plain_NoKind, sx_plain_TooMany, sx_plain_NoText, sx_plain_NoRow, sx_plain_NoStep, sx_plain_KeyroomError, sx_plain_ValueError, sx_plain_KeyError, sx_order_NoHouse, sx_order_NoPlain, sx_order_NoOrder, sx_order_NoNumber, sx_order_NoKind, sx_order_TooMany, sx_order_NoText, sx_order_NoRow, sx_order_NoStep, sx_order_KeyroomError, sx_order_ValueError, sx_order_KeyError, sx_number_NoHouse, sx_number_NoPlain, sx_number_NoOrder, sx_number_NoNumber, sx_number_NoKind, sx_number_TooMany, sx_number_NoText, sx_number_NoRow, sx_number_NoStep, sx_number_KeyroomError, sx_number_ValueError, sx_number_KeyError, sx_kind_NoHouse, sx_kind_NoPlain, sx_kind_NoOrder, sx_kind_NoNumber, sx_kind_NoKind, sx_kind_TooMany, sx_kind_NoText, sx_kind_NoRow, sx_kind_NoStep, sx_kind_KeyroomError, sx_kind_ValueError, sx_kind_KeyError, sx_many_NoHouse, sx_many_NoPlain, sx_many_NoOrder, sx_many_NoNumber, sx_many_NoKind, sx_many_TooMany, sx_many_NoText, sx_many_NoRow, sx_many_NoStep, sx_many_KeyroomError, sx_many_ValueError, sx_many_KeyError, sx_text_NoHouse, sx_text_NoPlain, sx_text_NoOrder, sx_text_NoNumber, sx_text_NoKind, sx_text_TooMany, sx_text_NoText, sx_text_NoRow, sx_text_NoStep, sx_text_KeyroomError, sx_text_ValueError, sx_text_KeyError, sx_row_NoHouse, sx_row_NoPlain, sx_row_NoOrder, sx_row_NoNumber, sx_row_NoKind, sx_row_TooMany, sx_row_NoText, sx_row_NoRow, sx_row_NoStep, sx_row_KeyroomError, sx_row_ValueError, sx_row_KeyError, sx_step_NoHouse, sx_step_NoPlain, sx_step_NoOrder, sx_step_NoNumber, sx_step_NoKind, sx_step_TooMany, sx_step_NoText, sx_step_NoRow, sx_step_NoStep, sx_step_KeyroomError, sx_step_ValueError, sx_step_KeyError, mulSA_str, mulSA_list, reprXA, dat?_d, stripCA, dictEnumN, makeO, methF, methO, attrA, objAt, objN_o, kidsAt, valT_d, valT_nd, valT_k, setFA, setO_none, setO_some, bitsA, augN, dispA, iterP, forPA, pkI, pkV, pkF, dcAt, dcN_k, viewT_k, zip_kids, zip_kv, dctK, dispTT, slLH, putN, tupleA, iterTx, bodyTI, retI, AVal.isD, getTT, putTO, dispTO, sortLRN, inTup, sortedTN_1, tupD_t, sortedBN_1, sortedBV_d, methXF, tup4G_V, tup4V_4, Nat.reduceAdd, Nat.reduceEqDiff, Nat.reduceSub, Nat.reduceLT, false_and, and_false, if_false, reduceCtorEq, Nat.reduceLeDiff])
/-! part p_nats -/
def natsD (order : List Nat) : PyData := .list (order.map fun i : Nat => .int (i : Int))
theorem intsD_natE (n : Nat) : intsD 0 (n : Int) = (List.range n).map fun k : Nat => PyData.int (k : Int) := by
  unfold intsD
  rw [show ((n : Int) - 0).toNat = n by omega]
  refine List.map_congr_left fun k _ => ?_
  rw [Int.zero_add]
/-! part p_misc -/
theorem cutD_take (ds : List PyData) (n : Nat) : cutD ds none (some (n : Int)) = ds.take n := by
  unfold cutD
  rw [HT.sIx_none, HT.sIx_nat, List.drop_zero, Nat.sub_zero]
  by_cases h : n ≤ ds.length
  · rw [Nat.min_eq_left h]
  · rw [Nat.min_eq_right (by omega), List.take_length, List.take_of_length_le (by omega)]
theorem CanGo.take {h : House} {order : List Nat} (c : CanGo h order) (n : Nat) : CanGo h (order.take n) := by
  refine ⟨c.nd.sublist (List.take_sublist _ _), fun i k hk => ?_⟩
  have hi := (List.getElem?_eq_some_iff.mp hk).1
  rw [List.length_take] at hi
  rw [List.getElem?_take_of_lt (by omega)] at hk
  obtain ⟨r, hr, hm⟩ := c.step i k hk
  exact ⟨r, hr, by rw [List.take_take, Nat.min_eq_left (by omega)]; exact hm⟩
theorem lay_self {n : Nat} {d : PyData} (h : Lay n d) : PyData.eqv d d = true := SeqAt.eqv_refl d h.1
theorem eqOk_lay {n m : Nat} {d e : PyData} (h1 : Lay n d) (h2 : Lay m e) (hn : n ≤ 64 := by decide) (hm : m ≤ 64 := by decide) : eqOk d e := by
  have a := h1.shaped hn
  have b := h2.shaped hm
  unfold eqOk
  split <;> first | trivial | exact ⟨a, b⟩
theorem iteE {x : Bool} {a b : Prop} [Decidable ((!x) = true)] (h : x = true) (hb : b) : (if (!x) = true then a else b) := by subst h; rw [if_neg (by simp)]; exact hb
/-! part p_text -/
theorem str_extL {a b : Str} (h : a.cps.toList = b.cps.toList) : a = b := Str.ext' (Array.toList_inj.mp h)
theorem str_app (a b : Str) : (a ++ b).cps.toList = a.cps.toList ++ b.cps.toList := by rw [Str.cps_append, Array.toList_append]
theorem cut_one {c : Nat} : ∀ {a b s t : List Nat}, c ∉ a → c ∉ b → a ++ c :: s = b ++ c :: t → a = b ∧ s = t
  | [], [], s, t, _, _, e => by simpa using e
  | [], y :: b, s, t, _, hb, e => by
    rw [List.nil_append, List.cons_append] at e
    injection e with e1 _
    exact absurd (e1 ▸ List.mem_cons_self ..) hb
  | x :: a, [], s, t, ha, _, e => by
    rw [List.nil_append, List.cons_append] at e
    injection e with e1 _
    exact absurd (e1 ▸ List.mem_cons_self ..) ha
  | x :: a, y :: b, s, t, ha, hb, e => by
    rw [List.cons_append, List.cons_append] at e
    injection e with e1 e2
    obtain ⟨h1, h2⟩ := cut_one (fun z => ha (List.mem_cons_of_mem _ z)) (fun z => hb (List.mem_cons_of_mem _ z)) e2
    exact ⟨by rw [e1, h1], h2⟩
theorem join_cons (sep x y : Str) (r : List Str) : Str.join sep (x :: y :: r) = x ++ sep ++ Str.join sep (y :: r) := rfl
theorem join_one {c : Nat} : ∀ {xs ys : List Str}, xs ≠ [] → ys ≠ [] → (∀ x ∈ xs, c ∉ x.cps.toList) → (∀ y ∈ ys, c ∉ y.cps.toList) → Str.join ⟨#[c]⟩ xs = Str.join ⟨#[c]⟩ ys → xs = ys
  | [], _, h, _, _, _, _ => absurd rfl h
  | _, [], _, h, _, _, _ => absurd rfl h
  | [x], [y], _, _, _, _, e => by
    have e : x = y := e
    rw [e]
  | [x], y :: y2 :: ys, _, _, hx, _, e => by
    have e : x = y ++ ⟨#[c]⟩ ++ Str.join ⟨#[c]⟩ (y2 :: ys) := e
    refine absurd ?_ (hx x (List.mem_cons_self ..))
    rw [e, str_app, str_app]
    simp
  | x :: x2 :: xs, [y], _, _, _, hy, e => by
    have e : x ++ ⟨#[c]⟩ ++ Str.join ⟨#[c]⟩ (x2 :: xs) = y := e
    refine absurd ?_ (hy y (List.mem_cons_self ..))
    rw [← e, str_app, str_app]
    simp
  | x :: x2 :: xs, y :: y2 :: ys, _, _, hx, hy, e => by
    rw [join_cons, join_cons] at e
    have e := congrArg (fun s : Str => s.cps.toList) e
    simp only [str_app, List.append_assoc] at e
    obtain ⟨h1, h2⟩ := cut_one (hx x (List.mem_cons_self ..)) (hy y (List.mem_cons_self ..)) e
    rw [str_extL h1, join_one (xs := x2 :: xs) (ys := y2 :: ys) (by simp) (by simp) (fun z hz => hx z (List.mem_cons_of_mem _ hz)) (fun z hz => hy z (List.mem_cons_of_mem _ hz)) (str_extL h2)]
theorem txt_join (sep : Str) (xs : List Str) : Txt.join sep xs = Str.join sep xs := StrLaws.glued_eq_join sep xs
theorem split_join {c : Nat} {xs : List Str} (h0 : xs ≠ []) (hx : ∀ x ∈ xs, c ∉ x.cps.toList) : Txt.split (Txt.join ⟨#[c]⟩ xs) ⟨#[c]⟩ = xs := by
  refine join_one (c := c) (fun z => ?_) h0 (StrLaws.split_free _ c) hx ?_
  · have := PyProof.Rows.split_pos (Txt.join ⟨#[c]⟩ xs) ⟨#[c]⟩
    rw [z] at this
    simp at this
  · rw [StrLaws.join_split, txt_join]
/-! ## how a house is written -/
def keysT (ks : List Str) : Str := if ks = [] then "-" else Txt.join " " (srt ks)
def roomT (r : Room') : Str := Txt.join "+" r.1 ++ ": " ++ keysT r.2
def houseT (h : House) : Str := Txt.join "\n" (keysT h.1 :: h.2.map roomT)
theorem sp_eq : (" " : Str) = ⟨#[32]⟩ := by decide +kernel
theorem pl_eq : ("+" : Str) = ⟨#[43]⟩ := by decide +kernel
theorem nl_eq : ("\n" : Str) = ⟨#[10]⟩ := by decide +kernel
theorem mi_eq : ("-" : Str) = ⟨#[45]⟩ := by decide +kernel
theorem co_eq : (": " : Str) = ⟨#[58, 32]⟩ := by decide +kernel
theorem mem_join {c : Nat} {sep : Str} : ∀ {xs : List Str}, c ∈ (Str.join sep xs).cps.toList → c ∈ sep.cps.toList ∨ ∃ x ∈ xs, c ∈ x.cps.toList
  | [], h => by simp [Str.join, Str.empty] at h
  | [x], h => .inr ⟨x, List.mem_cons_self .., h⟩
  | x :: y :: r, h => by
    rw [join_cons, str_app, str_app] at h
    rcases List.mem_append.mp h with h | h
    · rcases List.mem_append.mp h with h | h
      · exact .inr ⟨x, List.mem_cons_self .., h⟩
      · exact .inl h
    · rcases mem_join (xs := y :: r) h with h | ⟨z, hz, h⟩
      · exact .inl h
      · exact .inr ⟨z, List.mem_cons_of_mem _ hz, h⟩
theorem kind_not {c : Nat} {x : Str} (hc : c ∉ letters.cps.toList) (hx : isKind x = true) : c ∉ x.cps.toList := fun z => hc ((isKind_iff.mp hx).1 c z)
theorem not_let : (32 ∉ letters.cps.toList ∧ 43 ∉ letters.cps.toList ∧ 10 ∉ letters.cps.toList) ∧ 45 ∉ letters.cps.toList ∧ 58 ∉ letters.cps.toList := by decide +kernel
def Kds (ks : List Str) : Prop := ∀ k ∈ ks, isKind k = true
theorem Kds.srt {ks : List Str} (h : Kds ks) : Kds (srt ks) := fun k hk => h k ((srt_perm ks).mem_iff.mp hk)
theorem keysT_not {ks : List Str} (h : Kds ks) {c : Nat} (hc : c ∉ letters.cps.toList) (h1 : c ≠ 32) (h2 : c ≠ 45) : c ∉ (keysT ks).cps.toList := by
  unfold keysT
  split
  · rw [mi_eq]; simp [h2]
  · rw [txt_join]
    intro z
    rcases mem_join z with z | ⟨x, hx, z⟩
    · rw [sp_eq] at z; simp [h1] at z
    · exact kind_not hc (h.srt x hx) z
theorem srt_ne {ks : List Str} (h : ks ≠ []) : srt ks ≠ [] := fun z => h (by
  have := (srt_perm ks).length_eq
  rw [z] at this
  exact List.eq_nil_of_length_eq_zero this.symm)
theorem locks_split {ks : List Str} (h : Kds ks) (h0 : ks ≠ []) : Txt.split (Txt.join "+" ks) "+" = ks := by
  rw [pl_eq]
  exact split_join h0 fun x hx => kind_not not_let.1.2.1 (h x hx)
theorem roomT_nl {r : Room'} (h1 : Kds r.1) (h2 : Kds r.2) : 10 ∉ (roomT r).cps.toList := by
  unfold roomT
  rw [str_app, str_app, List.mem_append, List.mem_append]
  rintro ((z | z) | z)
  · rw [txt_join] at z
    rcases mem_join z with z | ⟨x, hx, z⟩
    · rw [pl_eq] at z; simp at z
    · exact kind_not not_let.1.2.2 (h1 x hx) z
  · rw [co_eq] at z; simp at z
  · exact keysT_not h2 not_let.1.2.2 (by decide) (by decide) z
theorem house_split {h : House} (gd : GoodHouse h) : Txt.split (houseT h) "\n" = keysT h.1 :: h.2.map roomT := by
  unfold houseT
  rw [nl_eq]
  refine split_join (by simp) fun x hx => ?_
  rcases List.mem_cons.mp hx with rfl | hx
  · exact keysT_not gd.keys not_let.1.2.2 (by decide) (by decide)
  · obtain ⟨r, hr, rfl⟩ := List.mem_map.mp hx
    exact roomT_nl (gd.rooms r hr).1 (gd.rooms r hr).2.1
theorem keysT_srt (ks : List Str) : keysT (srt ks) = keysT ks := by
  unfold keysT
  by_cases e : ks = []
  · subst e
    have : srt [] = [] := List.eq_nil_of_length_eq_zero (srt_perm []).length_eq
    rw [this, if_pos rfl, if_pos rfl]
  · rw [if_neg e, if_neg (srt_ne e), srt_srt]
/-! part p_kind53 -/
/-! kinds and houses, by the program's own words -/
theorem signs_eq (x : Str) : signsD x = x.cps.toList.map fun c => PyData.str ⟨#[c]⟩ := rfl
theorem is_kind_use {x : Str} {P : RV → List Cell → Prop} (hk : isKind x = true) (q : P (.f (.bool true)) []) : TT_is_kind_houses [.d (.str x)] [] P := by
  have szl : 100000 < sizeLine := by decide
  unfold isKind at hk
  simp only [Bool.and_eq_true] at hk
  obtain ⟨⟨h1, h2⟩, h3⟩ := hk
  have es : kitB "str" "str" = some true := by decide +kernel
  have hl : x.length ≤ 4 := by have := of_decide_eq_true h2; omega
  (first | simp_arith [TT_is_kind_houses, tt_is_kind_houses, es, h1, h2] | skip)
  refine ⟨by omega, by omega, ?_⟩
  rw [signs_eq]
  refine lcW_map trivial (fun c => PyData.str ⟨#[c]⟩) (fun _ => false) (fun c => PyData.str ⟨#[c]⟩) (fun c hc R1 R2 g1 g2 => ?_) ?_
  · have g2 := g2 rfl
    have hm := List.all_eq_true.mp h3 c hc
    have hm2 : decide (c ∈ (Str.ofString "abcdefghijklmnopqrstuvwxyz").cps.toList) = true := hm
    (first | simp_arith [hm2] | skip)
    exact ⟨c, rfl, rfl, iteE (by rw [hm2]) g2⟩
  rw [List.filter_eq_nil_iff.mpr fun _ _ => by simp]
  (first | simp_arith [onSome_some] | skip)
  exact q
theorem all_of_use {x cs : Str} {P : RV → List Cell → Prop} (h0 : x ≠ "") (hl : x.length ≤ 10000) (h : ∀ c ∈ x.cps.toList, c ∈ cs.cps.toList) (q : P (.f (.bool true)) []) : TT_all_of [.d (.str x), .d (.str cs)] [] P := by
  have szl : 100000 < sizeLine := by decide
  have e0 : decide (x = Str.ofString "") = false := decide_eq_false h0
  (first | simp_arith [TT_all_of, tt_all_of, e0] | skip)
  refine ⟨by omega, ?_⟩
  rw [signs_eq]
  refine lcW_map trivial (fun c => PyData.str ⟨#[c]⟩) (fun _ => false) (fun c => PyData.str ⟨#[c]⟩) (fun c hc R1 R2 g1 g2 => ?_) ?_
  · have g2 := g2 rfl
    have hm2 : decide (c ∈ cs.cps.toList) = true := decide_eq_true (h c hc)
    (first | simp_arith [hm2] | skip)
    exact ⟨c, rfl, rfl, iteE (by rw [hm2]) g2⟩
  rw [List.filter_eq_nil_iff.mpr fun _ _ => by simp]
  (first | simp_arith [onSome_some] | skip)
  exact q
theorem are_keys_use {ks : List Str} {P : RV → List Cell → Prop} (hk : ∀ k ∈ ks, isKind k = true) (q : P (.f (.bool true)) []) : TT_are_keys [.d (ksD ks)] [] P := by
  have es : kitB "list" "list" = some true := by decide +kernel
  (first | simp_arith [TT_are_keys, tt_are_keys, ksD, es] | skip)
  refine lcW_map trivial PyData.str (fun _ => false) PyData.str (fun c hc R1 R2 g1 g2 => ?_) ?_
  · have g2 := g2 rfl
    (first | simp_arith [onSome_some] | skip)
    refine is_kind_use (hk c hc) ?_
    (first | simp_arith [onSome_some] | skip)
    exact g2
  rw [List.filter_eq_nil_iff.mpr fun _ _ => by simp]
  (first | simp_arith [onSome_some] | skip)
  exact q
theorem is_room_use {r : Room'} {P : RV → List Cell → Prop} (g : goodRoom r) (q : P (.f (.bool true)) []) : TT_is_room [.d (roomD r)] [] P := by
  have es : kitB "tuple" "tuple" = some true := by decide +kernel
  obtain ⟨g1, g2, g3, g4, g5⟩ := g
  have h1 : decide ((1 : Int) ≤ (r.1.length : Int)) = true := decide_eq_true (by omega)
  have h2 : decide ((r.1.length : Int) ≤ 4) = true := decide_eq_true (by omega)
  have lk := lay_ks g1
  (first | simp_arith [TT_is_room, tt_is_room, roomD, es] | skip)
  refine are_keys_use g1 ?_
  (first | simp_arith [onSome_some] | skip)
  refine are_keys_use g2 ?_
  (first | simp_arith [h1, h2, srtD_strs, g5, show PyData.eqv (PyData.list (r.1.map PyData.str)) (PyData.list (r.1.map PyData.str)) = true from lay_self lk] | skip)
  exact ⟨eqOk_lay lk lk, q⟩
theorem is_house_use {h : House} {P : RV → List Cell → Prop} (g : GoodHouse h) (q : P (.f (.bool true)) []) : TT_is_house [.d (houseD h)] [] P := by
  have es : kitB "tuple" "tuple" = some true := by decide +kernel
  have el : kitB "list" "list" = some true := by decide +kernel
  (first | simp_arith [TT_is_house, tt_is_house, houseD, es] | skip)
  refine are_keys_use g.keys ?_
  (first | simp_arith [el] | skip)
  refine lcW_map trivial roomD (fun _ => false) roomD (fun r hr R1 R2 g1 g2 => ?_) ?_
  · have g2 := g2 rfl
    (first | simp_arith [onSome_some] | skip)
    refine is_room_use (g.rooms r hr) ?_
    (first | simp_arith [onSome_some] | skip)
    exact g2
  rw [List.filter_eq_nil_iff.mpr fun _ _ => by simp]
  (first | simp_arith [onSome_some] | skip)
  exact q
theorem need_house_use {h : House} {P : RV → List Cell → Prop} (g : GoodHouse h) (q : P (.f .none) []) : TT_need_house [.d (houseD h)] [] P := by
  (first | simp_arith [TT_need_house, tt_need_house] | skip)
  refine is_house_use g ?_
  (first | simp_arith [onSome_some] | skip)
  exact q
/-! part p_row53 -/
/-! rows, word by word -/
theorem kind_parts {x : Str} (hk : isKind x = true) : x ≠ "" ∧ x.length ≤ 4 ∧ ∀ c ∈ x.cps.toList, c ∈ letters.cps.toList := by
  unfold isKind at hk
  simp only [Bool.and_eq_true] at hk
  obtain ⟨⟨h1, h2⟩, h3⟩ := hk
  have l1 := of_decide_eq_true h1
  have l2 := of_decide_eq_true h2
  refine ⟨fun e => ?_, by omega, fun c hc => of_decide_eq_true (List.all_eq_true.mp h3 c hc)⟩
  subst e
  have : (("" : Str).length : Int) = 0 := rfl
  omega
theorem kind_rows_use {x : Str} {P : RV → List Cell → Prop} (hk : isKind x = true) (q : P (.f (.bool true)) []) : TT_is_kind_rows [.d (.str x)] [] P := by
  have szl : 100000 < sizeLine := by decide
  obtain ⟨h0, hl, hc⟩ := kind_parts hk
  have h4 : decide ((x.length : Int) ≤ 4) = true := decide_eq_true (by omega)
  (first | simp_arith [TT_is_kind_rows, tt_is_kind_rows] | skip)
  refine all_of_use h0 (by omega) hc ?_
  (first | simp_arith [h4] | skip)
  exact ⟨by omega, q⟩
def dashW (ks : List Str) : List Str := if ks = [] then ["-"] else ks
theorem dash_kind : isKind ("-" : Str) = false := by decide +kernel
theorem dash_nil : dashW [] = [("-" : Str)] := rfl
theorem keys_asked_use {ks : List Str} {P : RV → List Cell → Prop} (hk : ∀ k ∈ ks, isKind k = true) (hl : ks.length ≤ 1000) (q : P (.n (.lst (ks.map .str))) []) : TT_keys_asked [.d (.list ((dashW ks).map .str))] [] P := by
  have szl : 100000 < sizeLine := by decide
  have ld : Lay 1 (.list [PyData.str (Str.ofString "-")]) := lay_list fun d m => by
    rw [List.mem_singleton] at m; subst m; exact lay_str (by decide +kernel)
  by_cases e : ks = []
  · subst e
    have ee : PyData.eqv (.list [.str (Str.ofString "-")]) (.list [.str (Str.ofString "-")]) = true := lay_self ld
    rw [dash_nil]
    (first | simp_arith [ee, TT_keys_asked, tt_keys_asked] | skip)
    exact ⟨by omega, eqOk_lay ld ld, q⟩
  · have e1 : dashW ks = ks := if_neg e
    have lk : Lay 1 (.list (ks.map PyData.str)) := lay_ks hk
    have ee : PyData.eqv (.list (ks.map PyData.str)) (.list [.str (Str.ofString "-")]) = false := by
      have := eqv_ks ks [("-" : Str)]
      rw [show PyData.eqv (.list (ks.map PyData.str)) (.list [.str (Str.ofString "-")]) = decide (ks = [("-" : Str)]) from this]
      refine decide_eq_false fun z => ?_
      have := hk ("-" : Str) (by rw [z]; exact List.mem_singleton.mpr rfl)
      rw [dash_kind] at this
      cases this
    have en : (ks.map PyData.str).isEmpty = false := by
      rw [List.isEmpty_map]
      cases ks with
      | nil => exact absurd rfl e
      | cons _ _ => rfl
    rw [e1]
    (first | simp_arith [ee, en, TT_keys_asked, tt_keys_asked] | skip)
    refine ⟨by omega, eqOk_lay lk ld, ?_⟩
    refine lcW_map trivial PyData.str (fun _ => false) PyData.str (fun c hc R1 R2 g1 g2 => ?_) ?_
    · have g2 := g2 rfl
      (first | simp_arith [onSome_some] | skip)
      refine kind_rows_use (hk c hc) ?_
      (first | simp_arith [onSome_some] | skip)
      exact g2
    rw [List.filter_eq_nil_iff.mpr fun _ _ => by simp]
    (first | simp_arith [onSome_some] | skip)
    exact q
theorem locks_asked_use {ls : List Str} {P : RV → List Cell → Prop} (hk : Kds ls) (h0 : ls ≠ []) (hl : ls.length ≤ 4) (hz : (Txt.join "+" ls).length ≤ 1000) (q : P (.n (.lst ((srt ls).map .str))) []) : TT_locks_asked [.d (.str (Txt.join "+" ls))] [] P := by
  have szl : 100000 < sizeLine := by decide
  have hc : ((Str.ofString "+").length == 0) = false := rfl
  have esp : Txt.split (Txt.join (Str.ofString "+") ls) (Str.ofString "+") = ls := locks_split hk h0
  have h4 : decide ((4 : Int) < (ls.length : Int)) = false := decide_eq_false (by omega)
  (first | simp_arith [TT_locks_asked, tt_locks_asked, splitN, hc, esp, List.length_map, h4] | skip)
  refine ⟨by omega, ?_⟩
  refine lcW_map trivial PyData.str (fun _ => false) PyData.str (fun c hc R1 R2 g1 g2 => ?_) ?_
  · have g2 := g2 rfl
    (first | simp_arith [onSome_some] | skip)
    refine kind_rows_use (hk c hc) ?_
    (first | simp_arith [onSome_some] | skip)
    exact g2
  rw [List.filter_eq_nil_iff.mpr fun _ _ => by simp]
  (first | simp_arith [onSome_some] | skip)
  exact q
theorem number_use {z : Str} {P : RV → List Cell → Prop} (h0 : z ≠ "") (hl : z.length ≤ 9) (hc : ∀ c ∈ z.cps.toList, c ∈ ("0123456789" : Str).cps.toList) (hd : z.length = 1 ∨ ∃ c, z.cps.toList[0]? = some c ∧ (⟨#[c]⟩ : Str) ≠ "0") (q : P (.f (.bool true)) []) : TT_is_number [.d (.str z)] [] P := by
  have szl : 100000 < sizeLine := by decide
  have h9 : decide ((z.length : Int) ≤ 9) = true := decide_eq_true (by omega)
  (first | simp_arith [TT_is_number, tt_is_number] | skip)
  refine all_of_use h0 (by omega) hc ?_
  (first | simp_arith [h9] | skip)
  refine ⟨by omega, by omega, ?_⟩
  split
  · exact q
  · rename_i h1
    rcases hd with hd | ⟨c, e, hc0⟩
    · exact absurd (decide_eq_true (show (z.length : Int) = 1 by omega)) h1
    · have ec : decide ((⟨#[c]⟩ : Str) = Str.ofString "0") = false := decide_eq_false hc0
      refine ⟨by omega, c, by rw [show (0 : Int) = ((0 : Nat) : Int) from rfl, atI_natE]; exact e, ?_⟩
      show P (RV.f (PyData.bool !decide ((⟨#[c]⟩ : Str) = Str.ofString "0"))) []
      rw [ec]
      exact q
def numT (n : Nat) : Str := Str.ofString (toString (n : Int))
def numOk (n : Nat) : Bool := (decide (PySem.intText? (numT n) = some (n : Int)) && decide (n.log2 < 1920)) && decide (numT n ≠ "") && decide ((numT n).length ≤ 9) && ((numT n).cps.toList.all fun c => decide (c ∈ ("0123456789" : Str).cps.toList)) && (decide ((numT n).length = 1) || match (numT n).cps.toList[0]? with | some c => decide ((⟨#[c]⟩ : Str) ≠ "0") | none => false)
theorem numOk_all : ((List.range 101).all numOk && numOk 999999999) = true := by decide +kernel
theorem numOk_of {n : Nat} (h : n ≤ 100 ∨ n = 999999999) : numOk n = true := by
  have := numOk_all
  rw [Bool.and_eq_true] at this
  rcases h with h | rfl
  · exact List.all_eq_true.mp this.1 n (List.mem_range.mpr (by omega))
  · exact this.2
theorem num_use {n : Nat} {P : RV → List Cell → Prop} (h : numOk n = true) (q : P (.f (.bool true)) []) : TT_is_number [.d (.str (numT n))] [] P := by
  unfold numOk at h
  simp only [Bool.and_eq_true, Bool.or_eq_true] at h
  obtain ⟨⟨⟨⟨_, h1⟩, h2⟩, h3⟩, h4⟩ := h
  refine number_use (of_decide_eq_true h1) (of_decide_eq_true h2) (fun c hc => of_decide_eq_true (List.all_eq_true.mp h3 c hc)) ?_ q
  rcases h4 with h4 | h4
  · exact .inl (of_decide_eq_true h4)
  · cases e : (numT n).cps.toList[0]? with
    | none => rw [e] at h4; cases h4
    | some c => rw [e] at h4; exact .inr ⟨c, rfl, of_decide_eq_true h4⟩
theorem num_len {n : Nat} (h : numOk n = true) : (numT n).length ≤ 9 := by
  unfold numOk at h
  simp only [Bool.and_eq_true, Bool.or_eq_true] at h
  exact of_decide_eq_true h.1.1.2
theorem num_blank {n : Nat} (h : numOk n = true) : 32 ∉ (numT n).cps.toList := fun z => by
  unfold numOk at h
  simp only [Bool.and_eq_true, Bool.or_eq_true] at h
  have := of_decide_eq_true (List.all_eq_true.mp h.1.2 32 z)
  revert this
  decide +kernel
theorem num_reads {n : Nat} (h : numOk n = true) : PySem.intText? (numT n) = some (n : Int) ∧ (n : Int).natAbs.log2 < 1920 := by
  unfold numOk at h
  simp only [Bool.and_eq_true, Bool.or_eq_true] at h
  exact ⟨of_decide_eq_true h.1.1.1.1.1, of_decide_eq_true h.1.1.1.1.2⟩
def joinedT (ns : List Nat) : Str := if ns = [] then "none" else Txt.join " " (ns.map numT)
theorem sum_num : ∀ {ns : List Nat}, (∀ n ∈ ns, numOk n = true) → ((ns.map numT).map (·.length)).sum ≤ 9 * ns.length
  | [], _ => by simp
  | n :: ns, h => by
    have h1 := num_len (h n (List.mem_cons_self ..))
    have h2 := sum_num (ns := ns) fun x hx => h x (List.mem_cons_of_mem _ hx)
    simp only [List.map_cons, List.sum_cons, List.length_cons]
    omega
theorem joined_use {ns : List Nat} {P : RV → List Cell → Prop} (h : ∀ n ∈ ns, numOk n = true) (hl : ns.length ≤ 100) (q : P (.f (.str (joinedT ns))) []) : TT_joined_words [.d (natsD ns)] [] P := by
  have szl : 100000 < sizeLine := by decide
  by_cases e : ns = []
  · subst e
    (first | simp_arith [TT_joined_words, tt_joined_words, natsD] | skip)
    exact q
  · have en : (ns.map fun k : Nat => PyData.int (k : Int)).isEmpty = false := by
      rw [List.isEmpty_map]
      cases ns with
      | nil => exact absurd rfl e
      | cons _ _ => rfl
    (first | simp_arith [TT_joined_words, tt_joined_words, natsD, en] | skip)
    refine lcW_map trivial (fun k : Nat => PyData.int (k : Int)) (fun _ => true) (fun k => PyData.str (numT k)) (fun k hk R1 R2 g1 g2 => ?_) ?_
    · (first | simp_arith [strA, one_1] | skip)
      exact ⟨(num_reads (h k hk)).2, g1 rfl⟩
    rw [List.filter_eq_self.mpr fun _ _ => rfl, List.nil_append]
    have em : (ns.map fun k => PyData.str (numT k)) = (ns.map numT).map PyData.str := by rw [List.map_map]; rfl
    have hs := sum_num h
    have h1 : (Str.ofString " ").length = 1 := rfl
    rw [em]
    (first | simp_arith [strs?_map] | skip)
    rw [h1]
    refine ⟨by omega, ?_⟩
    have ej : joinedT ns = Txt.join (Str.ofString " ") (ns.map numT) := if_neg e
    rw [← ej]
    exact q
/-! part p_words53 -/
/-! what a row tells -/
def rowT (W : List Str) : Str := Txt.join " " W
theorem row_split {W : List Str} (h0 : W ≠ []) (hW : ∀ x ∈ W, 32 ∉ x.cps.toList) : Txt.split (rowT W) (Str.ofString " ") = W := split_join h0 hW
theorem dash_blank {ks : List Str} (hk : Kds ks) : ∀ x ∈ dashW ks, 32 ∉ x.cps.toList := fun x hx => by
  unfold dashW at hx
  split at hx
  · rw [List.mem_singleton] at hx; subst hx; decide +kernel
  · exact kind_not not_let.1.1 (hk x hx)
theorem cut_lo (d : PyData) (ds : List PyData) : cutD (d :: ds) (some 1) none = ds := by
  rw [show (1 : Int) = ((1 : Nat) : Int) from rfl]
  unfold cutD
  rw [HT.sIx_none, HT.sIx_nat]
  simp
theorem cut_lo2 (d e : PyData) (ds : List PyData) : cutD (d :: e :: ds) (some 2) none = ds := by
  rw [show (2 : Int) = ((2 : Nat) : Int) from rfl]
  unfold cutD
  rw [HT.sIx_none, HT.sIx_nat]
  simp
theorem words_keys_use {ks : List Str} {P : RV → List Cell → Prop} (hk : Kds ks) (hl : ks.length ≤ 1000) (hz : (rowT ("keys" :: dashW ks)).length ≤ 100000) (q : P (.n (.lst [.str "keys", ksD ks])) []) : TT_words_asked [.d (.str (rowT ("keys" :: dashW ks)))] [] P := by
  have szl : 200000 < sizeLine := by decide
  have es : kitB "str" "str" = some true := by decide +kernel
  have hc : ((Str.ofString " ").length == 0) = false := rfl
  have esp := row_split (W := "keys" :: dashW ks) (by simp) fun x hx => by
    rcases List.mem_cons.mp hx with rfl | hx
    · decide +kernel
    · exact dash_blank hk x hx
  (first | simp_arith [TT_words_asked, tt_words_asked, splitN, es, hc, esp, List.map_cons] | skip)
  rw [cut_lo]
  refine ⟨by omega, ?_⟩
  refine keys_asked_use hk hl ?_
  (first | simp_arith [onSome_some] | skip)
  refine ⟨by omega, ?_⟩
  rw [if_neg (by decide)]
  exact q
theorem words_room_use {ls ks : List Str} {P : RV → List Cell → Prop} (hlk : Kds ls) (h0 : ls ≠ []) (hl4 : ls.length ≤ 4) (hk : Kds ks) (hl : ks.length ≤ 1000) (hz1 : (Txt.join "+" ls).length ≤ 1000) (hz : (rowT ("room" :: Txt.join "+" ls :: dashW ks)).length ≤ 100000) (hb : 32 ∉ (Txt.join "+" ls).cps.toList) (q : P (.n (.lst [.str "room", ksD (srt ls), ksD ks])) []) : TT_words_asked [.d (.str (rowT ("room" :: Txt.join "+" ls :: dashW ks)))] [] P := by
  have szl : 200000 < sizeLine := by decide
  have es : kitB "str" "str" = some true := by decide +kernel
  have hc : ((Str.ofString " ").length == 0) = false := rfl
  have e1 : decide (Str.ofString "room" = Str.ofString "keys") = false := by decide +kernel
  have esp := row_split (W := "room" :: Txt.join "+" ls :: dashW ks) (by simp) fun x hx => by
    rcases List.mem_cons.mp hx with rfl | hx
    · decide +kernel
    rcases List.mem_cons.mp hx with rfl | hx
    · exact hb
    · exact dash_blank hk x hx
  have hlen : decide ((1 : Int) < (((dashW ks).length + 1 + 1 : Nat) : Int)) = true := decide_eq_true (by omega)
  (first | simp_arith [TT_words_asked, tt_words_asked, splitN, es, hc, esp, e1, List.map_cons, List.length_cons, List.length_map, hlen] | skip)
  refine ⟨by omega, ?_⟩
  refine locks_asked_use hlk h0 hl4 hz1 ?_
  (first | simp_arith [onSome_some] | skip)
  rw [cut_lo2]
  refine keys_asked_use hk hl ?_
  (first | simp_arith [onSome_some] | skip)
  refine ⟨by omega, ?_⟩
  rw [if_neg (by decide)]
  exact q
def numTab : List (Str × Int) := [("worth", 2), ("open", 1), ("nth", 1), ("back", 0), ("new", 0), ("hand", 0), ("next", 0), ("gone", 0), ("all", 0), ("first", 0), ("buy", 0), ("orders", 0), ("most", 0), ("best", 0), ("show", 0), ("rooms", 0)]
theorem words_num_use {w : Str} {ns : List Nat} {P : RV → List Cell → Prop} (hw : numTab.lookup w = some (ns.length : Int)) (hb : 32 ∉ w.cps.toList) (hwl : w.length ≤ 10) (e1 : decide (w = Str.ofString "keys") = false) (e2 : decide (w = Str.ofString "room") = false) (hn : ∀ n ∈ ns, numOk n = true) (hl : ns.length ≤ 2) (hz : (rowT (w :: ns.map numT)).length ≤ 100000) (q : P (.f (.list (.str w :: ns.map fun n : Nat => .int (n : Int)))) []) : TT_words_asked [.d (.str (rowT (w :: ns.map numT)))] [] P := by
  have szl : 200000 < sizeLine := by decide
  have es : kitB "str" "str" = some true := by decide +kernel
  have hc : ((Str.ofString " ").length == 0) = false := rfl
  have esp := row_split (W := w :: ns.map numT) (by simp) fun x hx => by
    rcases List.mem_cons.mp hx with rfl | hx
    · exact hb
    · obtain ⟨n, hn2, rfl⟩ := List.mem_map.mp hx
      exact num_blank (hn n hn2)
  have hw2 : List.lookup w [(Str.ofString "worth", (2 : Int)), (Str.ofString "open", 1), (Str.ofString "nth", 1), (Str.ofString "back", 0), (Str.ofString "new", 0), (Str.ofString "hand", 0), (Str.ofString "next", 0), (Str.ofString "gone", 0), (Str.ofString "all", 0), (Str.ofString "first", 0), (Str.ofString "buy", 0), (Str.ofString "orders", 0), (Str.ofString "most", 0), (Str.ofString "best", 0), (Str.ofString "show", 0), (Str.ofString "rooms", 0)] = some (ns.length : Int) := hw
  (first | simp_arith [TT_words_asked, tt_words_asked, splitN, es, hc, esp, e1, e2, kdInT, kdIxA, hw2, List.map_cons, List.length_cons, List.length_map, cut_lo] | skip)
  have ed : decide (((ns.length + 1 : Nat) : Int) = (ns.length : Int) + 1) = true := decide_eq_true (by omega)
  rw [ed]
  refine ⟨by omega, ?_⟩
  refine iteE rfl ?_
  have em : (ns.map numT).map PyData.str = ns.map fun n => PyData.str (numT n) := by rw [List.map_map]; rfl
  rw [em]
  refine lcW_map trivial (fun n => PyData.str (numT n)) (fun _ => false) (fun n => PyData.str (numT n)) (fun n hn2 R1 R2 g1 g2 => ?_) ?_
  · have g2 := g2 rfl
    (first | simp_arith [onSome_some] | skip)
    refine num_use (hn n hn2) ?_
    (first | simp_arith [onSome_some] | skip)
    exact g2
  rw [List.filter_eq_nil_iff.mpr fun _ _ => by simp]
  (first | simp_arith [onSome_some] | skip)
  refine lcW_map trivial (fun n => PyData.str (numT n)) (fun _ => true) (fun n : Nat => PyData.int (n : Int)) (fun n hn2 R1 R2 g1 g2 => ?_) ?_
  · have hr := num_reads (hn n hn2)
    have hl9 := num_len (hn n hn2)
    (first | simp_arith [intSA, one_1, hr.1] | skip)
    exact ⟨by omega, g1 rfl⟩
  rw [List.filter_eq_self.mpr fun _ _ => rfl, List.nil_append]
  have ec : cutD (PyData.str w :: ns.map fun n => PyData.str (numT n)) none (some 1) = [PyData.str w] := by
    rw [show (1 : Int) = ((1 : Nat) : Int) from rfl, cutD_take]
    rfl
  rw [ec]
  exact ⟨by rw [List.length_map]; simp only [List.length_cons, List.length_nil]; omega, q⟩
/-! part p_textu53 -/
theorem sum_kinds : ∀ {ks : List Str}, Kds ks → (ks.map (·.length)).sum ≤ 4 * ks.length
  | [], _ => by simp
  | k :: ks, h => by
    have := (isKind_len (h k (List.mem_cons_self ..))).2
    have ih := sum_kinds (ks := ks) fun x hx => h x (List.mem_cons_of_mem _ hx)
    simp only [List.map_cons, List.sum_cons, List.length_cons]
    omega
theorem join_len {sep : Str} {ks : List Str} (h : Kds ks) (hs : sep.length = 1) : (Txt.join sep ks).length ≤ 5 * ks.length := by
  rw [txt_join]
  have h1 := StrLaws.join_length_le sep ks
  have h2 := sum_kinds h
  rw [hs] at h1
  omega
theorem keysT_len {ks : List Str} (h : Kds ks) : (keysT ks).length ≤ 5 * ks.length + 1 := by
  unfold keysT
  split
  · show 1 ≤ _; omega
  · have := join_len (sep := " ") h.srt rfl
    rw [(srt_perm ks).length_eq] at this
    omega
theorem show_keys_use {ks : List Str} {P : RV → List Cell → Prop} (hk : Kds ks) (hl : ks.length ≤ 1000) (q : P (.f (.str (keysT ks))) []) : TT_show_keys [.d (ksD ks)] [] P := by
  have szl : 200000 < sizeLine := by decide
  have sz2 : sizeLine = 16777216 := by decide
  (first | simp_arith [TT_show_keys, tt_show_keys, ksD] | skip)
  cases ks with
  | nil =>
    (first | simp_arith [onSome_some] | skip)
    exact q
  | cons k ks =>
    have h1 := sum_kinds hk.srt
    have h2 := (srt_perm (k :: ks)).length_eq
    have e : keysT (k :: ks) = Txt.join " " (srt (k :: ks)) := by unfold keysT; rw [if_neg (by simp)]
    rw [e] at q
    have em : List.map PyData.str (k :: ks) = (k :: ks).map PyData.str := rfl
    (first | simp_arith [List.map_cons, List.isEmpty_cons] | skip)
    have hs1 : (Str.ofString " ").length = 1 := rfl
    rw [hs1]
    exact ⟨by omega, q⟩
structure Wh (h : House) : Prop where
  good : GoodHouse h
  b : h.1.length ≤ 300
  r : h.2.length ≤ 60
  k : ∀ r ∈ h.2, r.2.length ≤ 300
theorem roomT_len {h : House} (w : Wh h) {r : Room'} (hr : r ∈ h.2) : (roomT r).length ≤ 1600 := by
  obtain ⟨g1, g2, g3, g4, g5⟩ := w.good.rooms r hr
  have h1 := join_len (sep := "+") g1 rfl
  have h2 := keysT_len g2
  have h3 := w.k r hr
  unfold roomT
  rw [Str.length_append, Str.length_append]
  have : (Str.ofString ": ").length = 2 := rfl
  omega
theorem show_room_use {h : House} {r : Room'} {P : RV → List Cell → Prop} (w : Wh h) (hr : r ∈ h.2) (q : P (.f (.str (roomT r))) []) : TT_show_room [.d (roomD r)] [] P := by
  have szl : 200000 < sizeLine := by decide
  obtain ⟨g1, g2, g3, g4, g5⟩ := w.good.rooms r hr
  have h3 := w.k r hr
  have h1 := sum_kinds g1
  have hs1 : (Str.ofString "+").length = 1 := rfl
  have hs2 : (Str.ofString ": ").length = 2 := rfl
  have hl := roomT_len w hr
  have hj := join_len (sep := "+") g1 rfl
  have hk := keysT_len g2
  (first | simp_arith [TT_show_room, tt_show_room] | skip)
  rw [hs1]
  refine ⟨by omega, by rw [hs2]; omega, ?_⟩
  refine show_keys_use g2 (by omega) ?_
  (first | simp_arith [onSome_some] | skip)
  refine ⟨?_, q⟩
  rw [Str.length_append, hs2]
  omega
theorem sum_rooms {h : House} (w : Wh h) : ∀ {rs : List Room'}, (∀ r ∈ rs, r ∈ h.2) → ((rs.map roomT).map (·.length)).sum ≤ 1600 * rs.length
  | [], _ => by simp
  | r :: rs, hr => by
    have h1 := roomT_len w (hr r (List.mem_cons_self ..))
    have ih := sum_rooms w (rs := rs) fun x hx => hr x (List.mem_cons_of_mem _ hx)
    simp only [List.map_cons, List.sum_cons, List.length_cons]
    omega
theorem houseT_len {h : House} (w : Wh h) : (houseT h).length ≤ 120000 := by
  have h1 := StrLaws.join_length_le "\n" (keysT h.1 :: h.2.map roomT)
  have h2 := sum_rooms w (rs := h.2) fun _ h => h
  have h3 := keysT_len w.good.keys
  have h4 := w.b
  have h5 := w.r
  have hs : (Str.ofString "\n").length = 1 := rfl
  unfold houseT
  rw [txt_join]
  simp only [List.map_cons, List.sum_cons, List.length_cons, List.length_map] at h1
  rw [hs] at h1
  omega
theorem show_house_use {h : House} {P : RV → List Cell → Prop} (w : Wh h) (q : P (.f (.str (houseT h))) []) : TT_show_house [.d (houseD h)] [] P := by
  have szl : 200000 < sizeLine := by decide
  (first | simp_arith [TT_show_house, tt_show_house] | skip)
  refine is_house_use w.good ?_
  (first | simp_arith [onSome_some] | skip)
  have h4 := w.b
  have h5 := w.r
  refine show_keys_use w.good.keys (by omega) ?_
  (first | simp_arith [onSome_some] | skip)
  repeat (with_reducible refine And.intro (by first | omega | decide | exact Or.inl ⟨by omega, by omega⟩ | exact Or.inr ⟨by omega, by omega⟩ | (constructor <;> omega) | fail) ?_)
  refine lcW_map trivial roomD (fun _ => true) (fun r => PyData.str (roomT r)) (fun r hr R1 R2 h1 h2 => ?_) ?_
  · (first | simp_arith [onSome_some] | skip)
    refine show_room_use w hr ?_
    (first | simp_arith [onSome_some] | skip)
    exact h1 rfl
  have ef : (h.2.filter fun _ => true).map (fun r => PyData.str (roomT r)) = (h.2.map roomT).map PyData.str := by rw [List.filter_eq_self.mpr fun _ _ => rfl, List.map_map]; rfl
  have ec : PyData.str (keysT h.1) :: (h.2.map roomT).map PyData.str = (keysT h.1 :: h.2.map roomT).map PyData.str := rfl
  have h2 := sum_rooms w (rs := h.2) fun _ h => h
  have h3 := keysT_len w.good.keys
  have hs : (Str.ofString "\n").length = 1 := rfl
  (first | simp_arith [List.nil_append, ef, List.length_map] | skip)
  rw [ec, strs?_map]
  (first | simp_arith [onSome_some] | skip)
  rw [hs, List.sum_cons]
  exact ⟨by omega, by omega, q⟩
/-! part p_g52 -/
theorem numbers_use {c : Int} {many : Nat} {P : RV → List Cell → Prop} (h1 : many ≤ 1000) (q : ∀ ns : List Int, P (.n (.lst (ns.map .int))) []) : TT_law_numbers [.d (.int c), .d (.int (many : Int))] [] P := by
  have szl : 10000 < sizeLine := by decide
  have pw : ∀ (s : AS) (Q : VQ), powA (.d (.int 10)) (.d (.int 18)) s Q = ((0 ≤ (18 : Int) ∧ (18 : Int) ≤ 1000000 ∧ (10 : Int).natAbs < 2 ^ 64) ∧ Q (.d (.int (10 ^ 18))) s) := fun s Q => by
    simp only [powA, intOp, AVal.int?_int, onSome_some, CPow]
    rfl
  (first | simp_arith [TT_law_numbers, tt_law_numbers] | skip)
  repeat (with_reducible refine And.intro (by first | omega | decide | exact Or.inl ⟨by omega, by omega⟩ | exact Or.inr ⟨by omega, by omega⟩ | (constructor <;> omega) | fail) ?_)
  rw [intsD_natE]
  refine forW_map (fun k : Nat => PyData.int (k : Int)) (List.range many) (fun i s => ∃ (ns : List Int) (rest stir : Int), ns.length = i ∧ (0 ≤ stir ∧ stir < 2147483647) ∧ s = ⟨[some (.d (.int c)), some (.d (.int (many : Int))), some (.r 0), some (.d (.int rest)), some (.d (.int stir)), none, none], [.lst (ns.map .int)]⟩) ⟨[], c, c % 2147483647, rfl, by omega, rfl⟩ ?_ ?_
  · rintro i x s' N hx ⟨ns, rest, stir, hl, hst, rfl⟩ hN
    have hi : i < many := by have := (List.getElem?_eq_some_iff.mp hx).1; simpa using this
    have hx2 : x < many := by have := List.mem_of_getElem? hx; simpa using this
    have fin : ∀ (v : Int) (rest' stir' : Int), (0 ≤ stir' ∧ stir' < 2147483647) → ∀ sl, SubS 1 sl [some (.d (.int c)), some (.d (.int (many : Int))), some (.r 0), some (.d (.int rest')), some (.d (.int stir')), none, none] → N ⟨sl, [.lst (ns.map PyData.int ++ [.int v])]⟩ := by
      intro v rest' stir' hs' sl hs
      refine hN _ _ (wk_of (cs' := [.lst ((ns ++ [v]).map PyData.int)]) [] hs (by simp) rfl (by simp)) ⟨ns ++ [v], rest', stir', by simp [hl], hs', rfl⟩
    (first | simp_arith [pw, CDiv, CMul] | skip)
    have m1 : 0 ≤ ((stir + 7 * (x : Int) + 3) * 48271) % 2147483647 ∧ ((stir + 7 * (x : Int) + 3) * 48271) % 2147483647 < 2147483647 := ⟨Int.emod_nonneg _ (by decide), Int.emod_lt_of_pos _ (by decide)⟩
    refine ⟨by decide, ?_⟩
    split
    · split
      · refine ⟨by decide, by omega, by decide, ?_⟩
        exact fin _ (rest / 64) stir hst _ (by simp [SubS, ltO, AVal.lt])
      · repeat (with_reducible refine And.intro (by first | omega | decide | exact Or.inl ⟨by omega, by omega⟩ | exact Or.inr ⟨by omega, by omega⟩ | (constructor <;> omega) | fail) ?_)
        refine fin _ rest _ m1 _ ?_
        simp [SubS, ltO, AVal.lt]
    · repeat (with_reducible refine And.intro (by first | omega | decide | exact Or.inl ⟨by omega, by omega⟩ | exact Or.inr ⟨by omega, by omega⟩ | (constructor <;> omega) | fail) ?_)
      refine fin _ rest _ m1 _ ?_
      simp [SubS, ltO, AVal.lt]
  · rintro s' ⟨ns, rest, stir, hl, hst, rfl⟩
    (first | simp_arith [onSome_some] | skip)
    exact q ns
theorem deck_use {c : Int} {many : Nat} {P : RV → List Cell → Prop} (h1 : many ≤ 1000) (q : ∀ ns : List Int, P (.n (.lst (ns.map .int))) []) : TT_law_deck [.d (.int c), .d (.int (many : Int))] [] P := by
  (first | simp_arith [TT_law_deck, tt_law_deck] | skip)
  refine numbers_use h1 fun ns => ?_
  (first | simp_arith [onSome_some] | skip)
  rw [← List.map_reverse]
  exact q _
theorem modN (v m : Int) (hm : 0 < m) : ∃ r : Nat, v % m = (r : Int) ∧ (r : Int) < m := by
  have h0 := Int.emod_nonneg v (by omega : m ≠ 0)
  exact ⟨(v % m).toNat, by omega, by have := Int.emod_lt_of_pos v hm; omega⟩
theorem take_use {ns : List Int} {many : Int} {P : RV → List Cell → Prop} (h0 : 0 < many) (q : ∀ (r : Nat) (ns' : List Int), (r : Int) < many → P (.f (.int (r : Int))) [.lst (ns'.map .int)]) : TT_law_take [.r 0, .d (.int many)] [.lst (ns.map .int)] P := by
  (first | simp_arith [TT_law_take, tt_law_take] | skip)
  cases hns : (ns.map PyData.int).isEmpty with
  | true =>
    (first | simp_arith [onSome_some] | skip)
    exact q 0 ns (by omega)
  | false =>
    (first | simp_arith [onSome_some] | skip)
    have hne : ns ≠ [] := fun z => by rw [z] at hns; cases hns
    obtain ⟨v, hv⟩ : ∃ v, ns.getLast? = some v := ⟨_, List.getLast?_eq_some_getLast hne⟩
    rw [List.getLast?_map, hv, ← List.map_dropLast]
    (first | simp_arith [Option.map_some] | skip)
    obtain ⟨r, er, hr⟩ := modN v many h0
    rw [er]
    exact ⟨h0, q r _ hr⟩
theorem let_at26 {i : Int} (h0 : 0 ≤ i) (h1 : i < 26) : ∃ c, L2.atI letters.cps.toList i = some c ∧ c ∈ letters.cps.toList := by
  have ll : letters.cps.toList.length = 26 := by decide +kernel
  obtain ⟨n, rfl⟩ : ∃ n : Nat, i = (n : Int) := ⟨i.toNat, by omega⟩
  have g2 : n < letters.cps.toList.length := by omega
  exact ⟨letters.cps.toList[n], by rw [atI_natE]; exact List.getElem?_eq_getElem g2, List.getElem_mem g2⟩
theorem kindOf_use {ns : List Int} {few : Nat} {P : RV → List Cell → Prop} (h0 : 0 < few) (h1 : few ≤ 8) (q : ∀ (x : Str) (ns' : List Int), isKind x = true → P (.f (.str x)) [.lst (ns'.map .int)]) : TT_law_kind [.r 0, .d (.int (few : Int))] [.lst (ns.map .int)] P := by
  have szl : 10000 < sizeLine := by decide
  have pick : ∀ (L : List Str) (r : Nat), (∀ x ∈ L, isKind x = true) → r < L.length → ∃ x, L2.atI (L.map PyData.str) (r : Int) = some (.str x) ∧ L2.atI (L.map fun x => AVal.d (.str x)) (r : Int) = some (.d (.str x)) ∧ isKind x = true := fun L r hL hr => by
    refine ⟨L[r], ?_, ?_, hL _ (List.getElem_mem hr)⟩
    · rw [atI_natE, List.getElem?_map, List.getElem?_eq_getElem hr]
      rfl
    · rw [atI_natE, List.getElem?_map, List.getElem?_eq_getElem hr]
      rfl
  (first | simp_arith! [TT_law_kind, tt_law_kind] | skip)
  refine take_use (by decide) fun way ns1 hw => ?_
  have e5 : decide ((way : Int) = 5) = decide (way = 5) := decide_eq_decide.mpr (by omega)
  have e6 : decide ((way : Int) = 6) = decide (way = 6) := decide_eq_decide.mpr (by omega)
  have e7 : decide ((way : Int) = 7) = decide (way = 7) := decide_eq_decide.mpr (by omega)
  by_cases h5 : way = 5
  · have d5 : decide ((way : Int) = 5) = true := by rw [e5]; exact decide_eq_true h5
    (first | simp_arith [d5] | skip)
    repeat (with_reducible refine And.intro (by first | omega | decide | exact Or.inl ⟨by omega, by omega⟩ | exact Or.inr ⟨by omega, by omega⟩ | (constructor <;> omega) | fail) ?_)
    refine take_use (many := 18) (by decide) fun r ns2 hr => ?_
    obtain ⟨x, hx, hx2, hk⟩ := pick [("keys" : Str), "room", "open", "back", "new", "hand", "next", "gone", "all", "buy", "nth", "most", "best", "show", "none", "yes", "few", "shut"] r (by decide +kernel) (by show r < 18; omega)
    simp only [List.map_cons, List.map_nil] at hx hx2
    (first | simp_arith [hx, hx2] | skip)
    exact q x ns2 hk
  · by_cases h6 : way = 6
    · have d5 : decide ((way : Int) = 5) = false := by rw [e5]; exact decide_eq_false h5
      have d6 : decide ((way : Int) = 6) = true := by rw [e6]; exact decide_eq_true h6
      (first | simp_arith [d5, d6] | skip)
      repeat (with_reducible refine And.intro (by first | omega | decide | exact Or.inl ⟨by omega, by omega⟩ | exact Or.inr ⟨by omega, by omega⟩ | (constructor <;> omega) | fail) ?_)
      refine take_use (many := 8) (by decide) fun r ns2 hr => ?_
      obtain ⟨x, hx, hx2, hk⟩ := pick [("abcd" : Str), "abce", "abcz", "zz", "zy", "zbcd", "keya", "keyb"] r (by decide +kernel) (by show r < 8; omega)
      simp only [List.map_cons, List.map_nil] at hx hx2
      (first | simp_arith [hx, hx2] | skip)
      exact q x ns2 hk
    · by_cases h7 : way = 7
      · have d5 : decide ((way : Int) = 5) = false := by rw [e5]; exact decide_eq_false h5
        have d6 : decide ((way : Int) = 6) = false := by rw [e6]; exact decide_eq_false h6
        have d7 : decide ((way : Int) = 7) = true := by rw [e7]; exact decide_eq_true h7
        (first | simp_arith [d5, d6, d7] | skip)
        refine take_use (many := 4) (by decide) fun r ns2 hr => ?_
        (first | simp_arith [onSome_some] | skip)
        repeat (with_reducible refine And.intro (by first | omega | decide | exact Or.inl ⟨by omega, by omega⟩ | exact Or.inr ⟨by omega, by omega⟩ | (constructor <;> omega) | fail) ?_)
        rw [show (1 : Int) + (r : Int) = ((1 + r : Nat) : Int) by omega, intsD_natE]
        refine forW_map (fun k : Nat => PyData.int (k : Int)) (List.range (1 + r)) (fun i s => ∃ (w : Str) (ns' : List Int), LS w ∧ w.length = i ∧ s = ⟨[some (.r 0), some (.d (.int (few : Int))), some (.d (.int (way : Int))), none, some (.d (.str w)), none], [.lst (ns'.map .int)]⟩) ⟨"", ns2, (fun c hc => by cases hc), rfl, rfl⟩ ?_ ?_
        · rintro i x s' N hx ⟨w, ns', hw', hwl, rfl⟩ hN
          have hi : i < 1 + r := by have := (List.getElem?_eq_some_iff.mp hx).1; simpa using this
          (first | simp_arith [onSome_some] | skip)
          refine take_use (many := 26) (by decide) fun t ns3 ht => ?_
          obtain ⟨c, hc⟩ := let_at26 (i := (t : Int)) (by omega) (by omega)
          have hlt : Str.ofString "abcdefghijklmnopqrstuvwxyz" = letters := rfl
          (first | simp_arith [hlt, hc.1] | skip)
          refine ⟨by decide +kernel, by rw [hwl]; show i + 1 ≤ sizeLine; omega, hN _ ⟨[some (.r 0), some (.d (.int (few : Int))), some (.d (.int (way : Int))), none, some (.d (.str (w ++ ⟨#[c]⟩))), none], [.lst (ns3.map .int)]⟩ (wk_of [] (by simp [SubS, ltO, AVal.lt]) rfl rfl (by simp)) ⟨_, ns3, hw'.append (LS.one hc.2), ?_, rfl⟩⟩
          rw [Str.length_append, hwl]
          rfl
        · rintro s' ⟨w, ns', hw', hwl, rfl⟩
          rw [List.length_range] at hwl
          (first | simp_arith [onSome_some] | skip)
          exact q w ns' (isKind_iff.mpr ⟨hw', by omega, by omega⟩)
      · have d5 : decide ((way : Int) = 5) = false := by rw [e5]; exact decide_eq_false h5
        have d6 : decide ((way : Int) = 6) = false := by rw [e6]; exact decide_eq_false h6
        have d7 : decide ((way : Int) = 7) = false := by rw [e7]; exact decide_eq_false h7
        (first | simp_arith [d5, d6, d7] | skip)
        repeat (with_reducible refine And.intro (by first | omega | decide | exact Or.inl ⟨by omega, by omega⟩ | exact Or.inr ⟨by omega, by omega⟩ | (constructor <;> omega) | fail) ?_)
        refine take_use (by omega) fun r ns2 hr => ?_
        obtain ⟨x, hx, hx2, hk⟩ := pick [("a" : Str), "b", "ab", "c", "zz", "abcd", "ba", "k"] r (by decide +kernel) (by show r < 8; omega)
        simp only [List.map_cons, List.map_nil] at hx hx2
        (first | simp_arith [hx, hx2] | skip)
        exact q x ns2 hk
/-! part p_lcinv -/
theorem lcW_inv {α : Type} {g : TGA} {tt : TTA} {te : TEA} {vs : List Nat} {ok : List Cell → Prop} {sl : List (Option AVal)} {Q : List PyData → List Cell → Prop} (D : α → PyData) (xs : List α) (Iv : Nat → List PyData → List Cell → Prop) {acc : List PyData} {cs : List Cell} (h0 : Iv 0 acc cs) (hok : ∀ i acc cs, Iv i acc cs → ok cs)
    (hs : ∀ i x acc cs R1 R2, xs[i]? = some x → Iv i acc cs → (∀ d cs', Iv (i + 1) (acc ++ [d]) cs' → R1 d cs') → (∀ cs', Iv (i + 1) acc cs' → R2 cs') → lcStep g tt te vs sl cs (D x) R1 R2) (hd : ∀ acc cs, Iv xs.length acc cs → Q acc cs) : lcW g tt te vs ok sl (xs.map D) acc cs Q := by
  have key : ∀ (n i : Nat) (acc : List PyData) (cs : List Cell), xs.length = i + n → Iv i acc cs → lcW g tt te vs ok sl ((xs.drop i).map D) acc cs Q := by
    intro n
    induction n with
    | zero =>
      intro i acc cs hl hi
      rw [List.drop_eq_nil_of_le (by omega)]
      exact ⟨hok _ _ _ hi, hd _ _ (by rw [hl]; exact hi)⟩
    | succ n ih =>
      intro i acc cs hl hi
      have e : xs[i]? = some (xs[i]'(by omega)) := List.getElem?_eq_getElem (by omega)
      rw [drop_get e, List.map_cons]
      exact ⟨hok _ _ _ hi, hs i _ acc cs (fun d cs' => lcW g tt te vs ok sl ((xs.drop (i + 1)).map D) (acc ++ [d]) cs' Q) (fun cs' => lcW g tt te vs ok sl ((xs.drop (i + 1)).map D) acc cs' Q) e hi (fun d cs' h => ih (i + 1) _ _ (by omega) h) (fun cs' h => ih (i + 1) _ _ (by omega) h)⟩
  exact key xs.length 0 acc cs (by omega) h0
/-! part p_h53 -/
theorem keysOf_use {ns : List Int} {few : Nat} {most : Nat} {P : RV → List Cell → Prop} (h0 : 0 < few) (h1 : few ≤ 8) (hm0 : 0 < most) (hm : most ≤ 100) (q : ∀ (ks : List Str) (ns' : List Int), Kds ks → ks.length < most → P (.n (.lst (ks.map .str))) [.lst (ns'.map .int)]) : TT_law_keys [.r 0, .d (.int (few : Int)), .d (.int (most : Int))] [.lst (ns.map .int)] P := by
  (first | simp_arith [TT_law_keys, tt_law_keys] | skip)
  refine take_use (by omega) fun r ns1 hr => ?_
  (first | simp_arith [onSome_some] | skip)
  repeat (with_reducible refine And.intro (by first | omega | decide | exact Or.inl ⟨by omega, by omega⟩ | exact Or.inr ⟨by omega, by omega⟩ | (constructor <;> omega) | fail) ?_)
  rw [intsD_natE]
  refine lcW_inv (fun k : Nat => PyData.int (k : Int)) (List.range r) (fun i acc cs => ∃ (ks : List Str) (ns' : List Int), Kds ks ∧ ks.length = i ∧ acc = ks.map .str ∧ cs = [.lst (ns'.map .int)]) ⟨[], ns1, (fun _ h => nomatch h), rfl, rfl, rfl⟩ (fun _ _ _ _ => trivial) ?_ ?_
  · rintro i x acc cs R1 R2 hx ⟨ks, ns', hk, hl, rfl, rfl⟩ hR1 hR2
    (first | simp_arith [onSome_some] | skip)
    refine kindOf_use h0 h1 fun y ns'' hy => ?_
    (first | simp_arith [onSome_some] | skip)
    exact hR1 _ _ ⟨ks ++ [y], ns'', fun k hk' => by
      rcases List.mem_append.mp hk' with z | z
      · exact hk k z
      · rw [List.mem_singleton] at z; subst z; exact hy, by simp [hl], by simp, rfl⟩
  · rintro acc cs ⟨ks, ns', hk, hl, rfl, rfl⟩
    rw [List.length_range] at hl
    (first | simp_arith [onSome_some] | skip)
    exact q ks ns' hk (by omega)
structure Rms (rs : List Room') : Prop where
  ok : ∀ r ∈ rs, goodRoom r
  k : ∀ r ∈ rs, r.2.length ≤ 8
theorem Rms.snoc {rs : List Room'} {r : Room'} (h : Rms rs) (h1 : goodRoom r) (h2 : r.2.length ≤ 8) : Rms (rs ++ [r]) := by
  refine ⟨fun x hx => ?_, fun x hx => ?_⟩
  · rcases List.mem_append.mp hx with hx | hx
    · exact h.ok x hx
    · rw [List.mem_singleton] at hx; subst hx; exact h1
  · rcases List.mem_append.mp hx with hx | hx
    · exact h.k x hx
    · rw [List.mem_singleton] at hx; subst hx; exact h2
theorem Rms.wh {ks : List Str} {rs : List Room'} (h : Rms rs) (hk : Kds ks) (h1 : ks.length ≤ 300) (h2 : rs.length ≤ 60) : Wh (ks, rs) :=
  ⟨⟨hk, h.ok, by show ks.length ≤ _; omega, by show rs.length ≤ _; omega, fun r hr => by have := h.k r hr; omega⟩, h1, h2, fun r hr => by have := h.k r hr; omega⟩
theorem house_use {ns : List Int} {most lk : Nat} {P : RV → List Cell → Prop} (hmo : most ≤ 60) (hk0 : 0 < lk) (hk4 : lk ≤ 4) (q : ∀ (h : House) (ns' : List Int), Kds h.1 → h.1.length ≤ 13 → Rms h.2 → h.2.length ≤ most → P (.f (houseD h)) [.lst (ns'.map .int)]) : TT_law_house [.r 0, .d (.int (most : Int)), .d (.int (lk : Int))] [.lst (ns.map .int)] P := by
  have szl : 10000 < sizeLine := by decide
  (first | simp_arith! [TT_law_house, tt_law_house] | skip)
  repeat (with_reducible refine And.intro (by first | omega | decide | exact Or.inl ⟨by omega, by omega⟩ | exact Or.inr ⟨by omega, by omega⟩ | (constructor <;> omega) | fail) ?_)
  refine take_use (many := 3) (by decide) fun r ns1 hr => ?_
  obtain ⟨few, hf0, hf8, ef⟩ : ∃ few : Nat, 0 < few ∧ few ≤ 8 ∧ L2.atI [PyData.int 2, PyData.int 3, PyData.int 8] (r : Int) = some (.int (few : Int)) := by
    have : r = 0 ∨ r = 1 ∨ r = 2 := by omega
    rcases this with rfl | rfl | rfl
    · exact ⟨2, by decide, by decide, rfl⟩
    · exact ⟨3, by decide, by decide, rfl⟩
    · exact ⟨8, by decide, by decide, rfl⟩
  (first | simp_arith! [ef] | skip)
  refine take_use (many := (most : Int) + 1) (by omega) fun t ns2 ht => ?_
  (first | simp_arith! [onSome_some] | skip)
  repeat (with_reducible refine And.intro (by first | omega | decide | exact Or.inl ⟨by omega, by omega⟩ | exact Or.inr ⟨by omega, by omega⟩ | (constructor <;> omega) | fail) ?_)
  rw [intsD_natE]
  refine forW_map (fun k : Nat => PyData.int (k : Int)) (List.range t) (fun i s => ∃ (rs : List Room') (ns' : List Int), Rms rs ∧ rs.length = i ∧ s = ⟨[some (.r 0), some (.d (.int (most : Int))), some (.d (.int (lk : Int))), some (.d (.int (few : Int))), some (.r 1), none, none, none], [.lst (ns'.map .int), .lst (rs.map roomD)]⟩) ⟨[], ns2, ⟨(fun _ h => nomatch h), (fun _ h => nomatch h)⟩, rfl, rfl⟩ ?_ ?_
  · rintro i x s' N hx ⟨rs, ns', hrs, hl, rfl⟩ hN
    have hi : i < t := by have := (List.getElem?_eq_some_iff.mp hx).1; simpa using this
    (first | simp_arith [onSome_some] | skip)
    refine take_use (by omega) fun u ns3 hu => ?_
    (first | simp_arith [onSome_some] | skip)
    repeat (with_reducible refine And.intro (by first | omega | decide | exact Or.inl ⟨by omega, by omega⟩ | exact Or.inr ⟨by omega, by omega⟩ | (constructor <;> omega) | fail) ?_)
    rw [show (1 : Int) + (u : Int) = ((1 + u : Nat) : Int) by omega, intsD_natE]
    refine lcW_inv (fun k : Nat => PyData.int (k : Int)) (List.range (1 + u)) (fun i acc cs => ∃ (ks : List Str) (ns' : List Int), Kds ks ∧ ks.length = i ∧ acc = ks.map .str ∧ cs = [.lst (ns'.map .int), .lst (rs.map roomD)]) ⟨[], ns3, (fun _ h => nomatch h), rfl, rfl, rfl⟩ (fun _ _ _ _ => trivial) ?_ ?_
    · rintro i x acc cs R1 R2 hx ⟨ks, ns', hk, hl, rfl, rfl⟩ hR1 hR2
      (first | simp_arith [onSome_some] | skip)
      refine kindOf_use hf0 hf8 fun y ns'' hy => ?_
      (first | simp_arith [onSome_some] | skip)
      exact hR1 _ _ ⟨ks ++ [y], ns'', fun k hk' => by
        rcases List.mem_append.mp hk' with z | z
        · exact hk k z
        · rw [List.mem_singleton] at z; subst z; exact hy, by simp [hl], by simp, rfl⟩
    · rintro acc cs ⟨ks, ns4, hk, hkl, rfl, rfl⟩
      rw [List.length_range] at hkl
      obtain ⟨nin, en9, n90, n99⟩ : ∃ nin : Nat, L2.atI [PyData.int 9, PyData.int 3] (if decide ((12 : Int) < (most : Int)) = true then 1 else 0) = some (.int (nin : Int)) ∧ 0 < nin ∧ nin ≤ 9 := by
        by_cases e : (12 : Int) < (most : Int)
        · rw [if_pos (decide_eq_true e)]
          exact ⟨3, rfl, by decide, by decide⟩
        · rw [if_neg (by simpa using e)]
          exact ⟨9, rfl, by decide, by decide⟩
      (first | simp_arith [srtD_strs, en9] | skip)
      refine ⟨by omega, by omega, ?_⟩
      refine take_use (many := 5) (by decide) fun v ns5 hv => ?_
      obtain ⟨mo, hm0, hm9, em⟩ : ∃ mo : Nat, 0 < mo ∧ mo ≤ 9 ∧ L2.atI [PyData.int 2, PyData.int 3, PyData.int 4, PyData.int 2, PyData.int (nin : Int)] (v : Int) = some (.int (mo : Int)) := by
        have : v = 0 ∨ v = 1 ∨ v = 2 ∨ v = 3 ∨ v = 4 := by omega
        rcases this with rfl | rfl | rfl | rfl | rfl
        · exact ⟨2, by decide, by decide, rfl⟩
        · exact ⟨3, by decide, by decide, rfl⟩
        · exact ⟨4, by decide, by decide, rfl⟩
        · exact ⟨2, by decide, by decide, rfl⟩
        · exact ⟨nin, n90, n99, rfl⟩
      (first | simp_all_arith [em] | skip)
      refine keysOf_use hf0 hf8 hm0 (by omega) fun ys ns6 hy hyl => ?_
      (first | simp_arith [onSome_some] | skip)
      repeat (with_reducible refine And.intro (by first | omega | decide | exact Or.inl ⟨by omega, by omega⟩ | exact Or.inr ⟨by omega, by omega⟩ | (constructor <;> omega) | fail) ?_)
      refine hN _ ⟨[some (.r 0), some (.d (.int (most : Int))), some (.d (.int (lk : Int))), some (.d (.int (few : Int))), some (.r 1), none, none, none], [.lst (ns6.map .int), .lst ((rs ++ [((srt ks, ys) : Room')]).map roomD)]⟩ (wk_of [] (by simp [SubS, ltO, AVal.lt]) (by simp [roomD, ksD]) rfl (by simp)) ⟨rs ++ [(srt ks, ys)], ns6, hrs.snoc ⟨hk.srt, hy, ?_, ?_, srt_srt _⟩ ?_, by simp [hl], rfl⟩
      · show 1 ≤ (srt ks).length; rw [(srt_perm _).length_eq]; omega
      · show (srt ks).length ≤ 4; rw [(srt_perm _).length_eq]; omega
      · show ys.length ≤ 8; omega
  · rintro s' ⟨rs, ns', hrs, hl, rfl⟩
    rw [List.length_range] at hl
    (first | simp_arith [onSome_some] | skip)
    repeat (with_reducible refine And.intro (by first | omega | decide | exact Or.inl ⟨by omega, by omega⟩ | exact Or.inr ⟨by omega, by omega⟩ | (constructor <;> omega) | fail) ?_)
    refine take_use (many := 4) (by decide) fun v ns5 hv => ?_
    obtain ⟨mo, hm0, hm9, em⟩ : ∃ mo : Nat, 0 < mo ∧ mo ≤ 13 ∧ L2.atI [PyData.int 5, PyData.int 5, PyData.int 5, PyData.int 13] (v : Int) = some (.int (mo : Int)) := by
      have : v = 0 ∨ v = 1 ∨ v = 2 ∨ v = 3 := by omega
      rcases this with rfl | rfl | rfl | rfl
      · exact ⟨5, by decide, by decide, rfl⟩
      · exact ⟨5, by decide, by decide, rfl⟩
      · exact ⟨5, by decide, by decide, rfl⟩
      · exact ⟨13, by decide, by decide, rfl⟩
    (first | simp_all_arith [em] | skip)
    refine keysOf_use hf0 hf8 hm0 (by omega) fun ys ns6 hy hyl => ?_
    (first | simp_arith [onSome_some] | skip)
    repeat (with_reducible refine And.intro (by first | omega | decide | exact Or.inl ⟨by omega, by omega⟩ | exact Or.inr ⟨by omega, by omega⟩ | (constructor <;> omega) | fail) ?_)
    exact q (ys, rs) ns6 hy (by show ys.length ≤ 13; omega) hrs (by show rs.length ≤ most; omega)
/-! part p_k53 -/
/-! the law's own writing, and likeness -/
theorem keys_written_use {ks : List Str} {P : RV → List Cell → Prop} (hk : Kds ks) (hl : ks.length ≤ 1000) (q : P (.f (.str (keysT ks))) []) : TT_law_keys_written [.d (ksD ks)] [] P := by
  have szl : 200000 < sizeLine := by decide
  have hs1 : (Str.ofString " ").length = 1 := rfl
  (first | simp_arith [TT_law_keys_written, tt_law_keys_written, srtD_strs] | skip)
  by_cases e : ks = []
  · subst e
    have h0 : srt [] = [] := List.eq_nil_of_length_eq_zero (srt_perm []).length_eq
    have hd : (List.replicate (Int.toNat 1) [PyData.str (Str.ofString "-")]).flatten = [Str.ofString "-"].map PyData.str := rfl
    have hj : Txt.join (Str.ofString " ") [Str.ofString "-"] = keysT [] := by decide +kernel
    (first | simp_arith [h0, List.map_nil, List.isEmpty_nil, repL, hd, List.length_map, hj] | skip)
    rw [show strs? [PyData.str (Str.ofString "-")] = some [Str.ofString "-"] from rfl]
    refine ⟨by omega, ⟨by decide, by decide, by decide⟩, by decide, ?_⟩
    rw [onSome_some, hj]
    exact ⟨by decide, q⟩
  · have hne : (List.map PyData.str ks).isEmpty = false := by
      rw [List.isEmpty_map]
      cases ks with
      | nil => exact absurd rfl e
      | cons _ _ => rfl
    have h0 : repL 0 [PyData.str (Str.ofString "-")] = [] := rfl
    have hsum := sum_kinds hk.srt
    have hsl := (srt_perm ks).length_eq
    have hkT : keysT ks = Txt.join (Str.ofString " ") (srt ks) := if_neg e
    (first | simp_arith [hne, if_false, h0, List.append_nil] | skip)
    rw [hkT] at q
    refine ⟨by omega, ⟨by decide, by decide, by decide⟩, by simp; omega, ?_⟩
    rw [hs1]
    exact ⟨by omega, q⟩
theorem lines_use {h : House} {P : RV → List Cell → Prop} (w : Wh h) (q : P (.n (.lst ((keysT h.1 :: h.2.map roomT).map .str))) []) : TT_law_lines [.d (houseD h)] [] P := by
  have szl : 200000 < sizeLine := by decide
  have h4 := w.b
  have h5 := w.r
  have hs1 : (Str.ofString "+").length = 1 := rfl
  have hs2 : (Str.ofString ": ").length = 2 := rfl
  (first | simp_arith [TT_law_lines, tt_law_lines] | skip)
  refine keys_written_use w.good.keys (by omega) ?_
  (first | simp_arith [onSome_some] | skip)
  refine ⟨by omega, ?_⟩
  refine forW_fun roomD h.2 (fun i => ⟨[some (.d (houseD h)), some (.r 0), none, none], [.lst ((keysT h.1 :: (h.2.take i).map roomT).map .str)]⟩) (by simp [houseD, ksD]) ?_ ?_
  · intro i r N hr hN
    have hrm := List.mem_of_getElem? hr
    obtain ⟨g1, g2, g3, g4, g5⟩ := w.good.rooms r hrm
    have h3 := w.k r hrm
    have h1 := sum_kinds g1
    have hl := roomT_len w hrm
    have hj := join_len (sep := "+") g1 rfl
    have hil := (List.getElem?_eq_some_iff.mp hr).1
    have ht : (h.2.take (i + 1)).map roomT = (h.2.take i).map roomT ++ [roomT r] := by rw [List.take_add_one, hr, List.map_append]; rfl
    (first | simp_arith [onSome_some] | skip)
    rw [hs1, hs2]
    refine ⟨by omega, by omega, ?_⟩
    refine keys_written_use g2 (by omega) ?_
    have hkl := keysT_len g2
    (first | simp_arith [onSome_some] | skip)
    refine ⟨?_, ?_, hN _ ?_⟩
    · rw [Str.length_append, hs2]; omega
    · simp; omega
    · rw [ht]
      refine wk_of [] (by simp [SubS, ltO, AVal.lt, houseD, ksD]) ?_ rfl (by simp)
      simp [roomT]
  · rw [List.take_length]
    (first | simp_arith [onSome_some] | skip)
    exact q
/-! part p_get53 -/
theorem getA_map {α β : Type} [DecidableEq α] (f : α → β) (key : α → Key) (hk : ∀ a b, key a = key b → a = b) (x : α) : ∀ ks : List α, getA (ks.map fun y => (key y, f y)) (key x) = if x ∈ ks then some (f x) else none
  | [] => rfl
  | y :: ks => by
    have ih := getA_map f key hk x ks
    unfold getA at ih ⊢
    rw [List.map_cons, List.find?_cons]
    by_cases e : y = x
    · subst e; simp
    · have e1 : ¬ key y = key x := fun z => e (hk _ _ z)
      have e2 : ¬ x = y := fun z => e z.symm
      simp only [e1, decide_false, ih, List.mem_cons, e2, false_or]
theorem putA_map {α β : Type} [DecidableEq α] (f : α → β) (key : α → Key) (hk : ∀ a b, key a = key b → a = b) (x : α) (v : β) (ks : List α) (g : α → β) (hx : g x = v) (hg : ∀ y, y ≠ x → g y = f y) : putA (ks.map fun y => (key y, f y)) (key x) v = (if x ∈ ks then ks else ks ++ [x]).map fun y => (key y, g y) := by
  have hany : ((ks.map fun y => (key y, f y)).any fun kv => decide (kv.1 = key x)) = decide (x ∈ ks) := by
    rw [List.any_map, Bool.eq_iff_iff, List.any_eq_true]
    constructor
    · rintro ⟨y, hy, h⟩
      have : y = x := hk _ _ (of_decide_eq_true h)
      subst this
      exact decide_eq_true hy
    · intro h
      exact ⟨x, of_decide_eq_true h, decide_eq_true rfl⟩
  unfold putA
  rw [hany]
  by_cases hm : x ∈ ks
  · rw [if_pos (decide_eq_true hm), if_pos hm, List.map_map]
    refine List.map_congr_left fun y _ => ?_
    show (if key y = key x then (key y, v) else (key y, f y)) = _
    by_cases e : y = x
    · subst e; rw [if_pos rfl, hx]
    · rw [if_neg (fun z => e (hk _ _ z)), hg y e]
  · rw [if_neg (by simp [hm]), if_neg hm, List.map_append]
    congr 1
    · refine List.map_congr_left fun y hy => ?_
      rw [hg y (fun e => hm (e ▸ hy))]
    · simp [hx]
theorem inr_inj (a b : Str) (h : (Sum.inr a : Key) = Sum.inr b) : a = b := by injection h
theorem enumsD_map {α : Type} (f : α → PyData) (xs : List α) : enumsD (xs.map f) = xs.zipIdx.map fun p => .tuple [.int ((p.2 : Nat) : Int), f p.1] := by
  unfold enumsD
  apply List.ext_getElem?
  intro i
  rw [List.getElem?_mapIdx, List.getElem?_map, List.getElem?_map, List.getElem?_zipIdx]
  cases xs[i]? with
  | none => rfl
  | some x => simp
theorem zipIdx_at {α : Type} {xs : List α} {i : Nat} {p : α × Nat} (h : xs.zipIdx[i]? = some p) : p.2 = i ∧ xs[i]? = some p.1 := by
  rw [List.getElem?_zipIdx] at h
  cases hx : xs[i]? with
  | none => rw [hx] at h; cases h
  | some x => rw [hx] at h; simp at h; subst h; simp
def allKeys (h : House) : List Str := h.1 ++ h.2.flatMap (·.2)
theorem allKeys_len {h : House} (sm : Small h) : (allKeys h).length ≤ 2000 := by
  unfold allKeys
  rw [List.length_append, flat_len]
  have := sm.b; have := sm.k
  omega
/-! part p_may -/
def mayB (cnt : Str → Nat) (lo : List Str) : Bool := lo.all fun k => decide (lo.count k ≤ cnt k)
theorem may_filter (cnt : Str → Nat) (lo : List Str) : ((lo.filter fun k => decide (cnt k < lo.count k)).map PyData.str).isEmpty = mayB cnt lo := by
  unfold mayB
  rw [← filter_none lo (fun k => decide (lo.count k ≤ cnt k)) PyData.str]
  congr 2
  refine List.filter_congr fun k _ => ?_
  rw [← decide_not]
  exact decide_eq_decide.mpr (by omega)
def mayAt (h : House) (L : List Str) (k : Nat) : Bool := match h.2[k]? with | some r => mayB (fun y => L.count y) r.1 | none => false
def nextL (h : House) (L : List Str) (order : List Nat) : List Nat := (List.range h.2.length).filter fun k => !decide (k ∈ order) && mayAt h L k
theorem CanGo.nil (h : House) : CanGo h [] := ⟨List.nodup_nil, fun i k hk => by simp at hk⟩
theorem CanGo.snoc {h : House} {order : List Nat} {k : Nat} {r : Room'} (c : CanGo h order) (hk : k ∉ order) (hr : h.2[k]? = some r) (hm : (r.1.all fun l => decide (r.1.count l ≤ (walkL h order).count l)) = true) : CanGo h (order ++ [k]) := by
  refine ⟨List.nodup_append.mpr ⟨c.nd, List.nodup_cons.mpr ⟨(fun h => nomatch h), List.nodup_nil⟩, fun a ha b hb e => by
    rw [List.mem_singleton] at hb
    subst hb; subst e
    exact hk ha⟩, fun i j hj => ?_⟩
  by_cases hi : i < order.length
  · rw [List.getElem?_append_left hi] at hj
    obtain ⟨s, hs, hm'⟩ := c.step i j hj
    refine ⟨s, hs, ?_⟩
    rw [List.take_append_of_le_length (by omega)]
    exact hm'
  · have hi2 : i = order.length := by
      have := (List.getElem?_eq_some_iff.mp hj).1
      rw [List.length_append] at this
      simp only [List.length_cons, List.length_nil] at this
      omega
    subst hi2
    rw [List.getElem?_append_right (Nat.le_refl _)] at hj
    have e : k = j := by simpa using hj
    subst e
    refine ⟨r, hr, ?_⟩
    rw [List.take_left']
    · exact hm
    · rfl
theorem stepL_len {h : House} (sm : Small h) (L : List Str) (k : Nat) : (stepL h L k).length ≤ L.length + 1000 := by
  unfold stepL
  split
  · rename_i r e
    have h1 := foldl_erase_len r.1 L
    have h2 := one_le (List.mem_of_getElem? e)
    have h3 := sm.k
    unfold behindL
    rw [List.length_append]
    omega
  · omega
theorem foldL_len {h : House} (sm : Small h) : ∀ (order : List Nat) (L : List Str), (order.foldl (stepL h) L).length ≤ L.length + 1000 * order.length
  | [], L => by simp
  | k :: order, L => by
    have h1 := foldL_len sm order (stepL h L k)
    have h2 := stepL_len sm L k
    rw [List.foldl_cons, List.length_cons]
    omega
theorem walkL_len {h : House} (sm : Small h) (order : List Nat) : (walkL h order).length ≤ 1000 + 1000 * order.length := by
  have h1 := foldL_len sm order h.1
  have h2 := sm.b
  unfold walkL
  omega
/-! part p_hand -/
/-- keys in hand, by kinds -/
def handP (ks L : List Str) : List (Key × PyData) := ks.map fun x => (Sum.inr x, .int ((L.count x : Nat) : Int))
theorem dkv_handP (ks L : List Str) : dkv (handP ks L) = ks.map fun x => ((Sum.inr x : Key), AVal.d (.int ((L.count x : Nat) : Int))) := by unfold dkv handP; rw [List.map_map]; rfl
theorem hand_get {ks L : List Str} (hk : ∀ x ∈ L, x ∈ ks) (x : Str) : (getA (dkv (handP ks L)) (.inr x)).getD (.d (.int 0)) = .d (.int ((L.count x : Nat) : Int)) := by
  rw [dkv_handP, getA_map (fun y => AVal.d (.int ((L.count y : Nat) : Int))) (fun y : Str => (Sum.inr y : Key)) inr_inj x ks]
  split
  · rfl
  · rename_i h
    have : L.count x = 0 := List.count_eq_zero.mpr (fun z => h (hk x z))
    rw [this]; rfl
theorem hand_at {ks L : List Str} {x : Str} (hx : x ∈ ks) : getA (handP ks L) (.inr x) = some (.int ((L.count x : Nat) : Int)) := by
  unfold handP
  rw [getA_map (fun y => PyData.int ((L.count y : Nat) : Int)) (fun y : Str => (Sum.inr y : Key)) inr_inj x ks, if_pos hx]
theorem hand_add (ks L : List Str) (x : Str) : putA (handP ks L) (.inr x) (.int ((L.count x : Nat) + 1 : Int)) = handP (addK ks x) (L ++ [x]) := by
  unfold handP
  rw [putA_map _ (fun y : Str => (Sum.inr y : Key)) inr_inj x _ ks (fun y => PyData.int (((L ++ [x]).count y : Nat) : Int))]
  · rfl
  · simp
  · intro y hy
    have e : ¬ x = y := fun e => hy e.symm
    simp [List.count_append, List.count_cons, e]
theorem hand_sub {ks L : List Str} {x : Str} (hx : x ∈ ks) (hL : x ∈ L) : putA (handP ks L) (.inr x) (.int ((L.count x : Nat) - 1 : Int)) = handP ks (L.erase x) := by
  unfold handP
  rw [putA_map _ (fun y : Str => (Sum.inr y : Key)) inr_inj x _ ks (fun y => PyData.int (((L.erase x).count y : Nat) : Int)), if_pos hx]
  · have := List.count_pos_iff.mpr hL
    rw [List.count_erase_self]
    congr 1
    omega
  · intro y hy
    rw [List.count_erase_of_ne hy]
def openP (order : List Nat) : List (Key × PyData) := order.map fun k : Nat => (Sum.inl (k : Int), .bool true)
theorem inl_inj (a b : Nat) (h : (Sum.inl (a : Int) : Key) = Sum.inl (b : Int)) : a = b := by injection h with h; omega
theorem open_get (order : List Nat) (k : Nat) : (getA (dkv (openP order)) (.inl (k : Int))).isSome = decide (k ∈ order) := by
  have e : dkv (openP order) = order.map fun k : Nat => ((Sum.inl (k : Int) : Key), AVal.d (.bool true)) := by unfold dkv openP; rw [List.map_map]; rfl
  rw [e, getA_map (fun _ => AVal.d (.bool true)) (fun k : Nat => (Sum.inl (k : Int) : Key)) inl_inj k order]
  by_cases h : k ∈ order <;> simp [h]
theorem open_put {order : List Nat} {k : Nat} (h : k ∉ order) : putA (openP order) (.inl (k : Int)) (.bool true) = openP (order ++ [k]) := by
  unfold openP
  rw [putA_map (fun _ => PyData.bool true) (fun k : Nat => (Sum.inl (k : Int) : Key)) inl_inj k (.bool true) order (fun _ => .bool true) rfl (fun _ _ => rfl), if_neg h]
theorem handP_len (ks L : List Str) : (handP ks L).length = ks.length := by unfold handP; simp
theorem openP_len (order : List Nat) : (openP order).length = order.length := by unfold openP; simp
/-- a hand, told or a cell -/
def HandA (ks L : List Str) (x : AVal) (cs : List Cell) : Prop := (x = .d (dictD (handP ks L)) ∧ cs = []) ∨ (x = .r 0 ∧ cs = [.dK (handP ks L)])
theorem may_use {ks L lo : List Str} {x : AVal} {cs : List Cell} {P : RV → List Cell → Prop} (hx : HandA ks L x cs) (hk : ∀ y ∈ L, y ∈ ks) (h : P (.f (.bool (mayB (fun k => L.count k) lo))) cs) : TT_may_be_opened [x, .d (ksD lo)] cs P := by
  rcases hx with ⟨rfl, rfl⟩ | ⟨rfl, rfl⟩
  all_goals
    (first | simp_arith [TT_may_be_opened, tt_may_be_opened] | skip)
    refine lcW_map trivial _ (fun k => decide (L.count k < lo.count k)) PyData.str (fun x hx R1 R2 h1 h2 => ?_) ?_
    · (first | simp_arith [hand_get hk] | skip)
      have e : decide ((L.count x : Int) < (lo.count x : Int)) = decide (L.count x < lo.count x) := decide_eq_decide.mpr (by omega)
      rw [e]
      split
      · rename_i hc; exact h1 hc
      · rename_i hc; exact h2 (by simpa using hc)
    · (first | simp_arith [onSome_some] | skip)
      rw [may_filter]; exact h
/-- the kinds of a hand: each once, all of them there, none from elsewhere -/
structure HandK (ks L al : List Str) : Prop where
  nd : ks.Nodup
  all : ∀ x ∈ L, x ∈ ks
  few : ∀ x ∈ ks, x ∈ al
theorem HandK.len {ks L al : List Str} (h : HandK ks L al) : ks.length ≤ al.length := subset_length h.nd h.few
theorem HandK.add {ks L al : List Str} {x : Str} (h : HandK ks L al) (hx : x ∈ al) : HandK (addK ks x) (L ++ [x]) al := ⟨addK_nodup x h.nd, fun y hy => by
  rw [mem_addK]
  rcases List.mem_append.mp hy with hy | hy
  · exact .inl (h.all y hy)
  · exact .inr (by simpa using hy), fun y hy => by
  rcases mem_addK.mp hy with hy | hy
  · exact h.few y hy
  · exact hy ▸ hx⟩
theorem HandK.sub {ks L al : List Str} {x : Str} (h : HandK ks L al) : HandK ks (L.erase x) al := ⟨h.nd, fun y hy => h.all y (List.mem_of_mem_erase hy), h.few⟩
theorem HandK.nil (al : List Str) : HandK [] [] al := ⟨List.nodup_nil, (fun x h => nomatch h), (fun x h => nomatch h)⟩
/-! part p_walk -/
theorem walked_use {h : House} {order : List Nat} {P : RV → List Cell → Prop} (sm : Small h) (cg : CanGo h order) (hol : order.length ≤ 1000)
    (q : ∀ ks, HandK ks (walkL h order) (allKeys h) → P (.f (.tuple [dictD (handP ks (walkL h order)), dictD (openP order)])) []) : TT_walked [.d (houseD h), .d (natsD order)] [] P := by
  have al := allKeys_len sm
  have szl : 3000 < sizeLine := by decide
  (first | simp_arith [TT_walked, tt_walked, natsD] | skip)
  refine need_house_use sm.good ?_
  (first | simp_arith [onSome_some] | skip)
  refine forW_map PyData.str h.1 (fun i s => ∃ ks, HandK ks (h.1.take i) (allKeys h) ∧ s = ⟨[some (.d (houseD h)), some (.d (natsD order)), some (.r 0), none, none, none, none, none, none], [.dK (handP ks (h.1.take i))]⟩) ⟨[], HandK.nil _, rfl⟩ ?_ ?_
  · rintro i x s' N hx ⟨ks, hk, rfl⟩ hN
    have hkl := hk.len
    have hxa : x ∈ allKeys h := List.mem_append_left _ (List.mem_of_getElem? hx)
    have ht : h.1.take (i + 1) = h.1.take i ++ [x] := by rw [List.take_add_one, hx]; rfl
    (first | simp_arith [hand_get hk.all, hand_add, handP_len, natsD] | skip)
    refine ⟨by omega, hN _ ⟨[some (.d (houseD h)), some (.d (natsD order)), some (.r 0), none, none, none, none, none, none], [.dK (handP (addK ks x) (h.1.take (i + 1)))]⟩ (wk_of [] ?_ ?_ rfl (by simp)) ⟨addK ks x, ht ▸ hk.add hxa, rfl⟩⟩
    · simp [SubS, ltO, AVal.lt, ksD, roomD, houseD, natsD]
    · rw [ht]; simp
  · rintro s' ⟨ks0, hk0, rfl⟩
    rw [List.take_length] at hk0 ⊢
    (first | simp_arith [natsD] | skip)
    rw [enumsD_map]
    refine forW_map _ order.zipIdx (fun i s => ∃ ks, HandK ks (walkL h (order.take i)) (allKeys h) ∧ s = ⟨[some (.d (houseD h)), some (.d (natsD order)), some (.r 0), none, some (.r 1), none, none, none, none], [.dK (handP ks (walkL h (order.take i))), .dK (openP (order.take i))]⟩) ⟨ks0, hk0, rfl⟩ ?_ ?_
    · rintro i ⟨k, i'⟩ s' N hx ⟨ks, hk, rfl⟩ hN
      obtain ⟨rfl, hik⟩ := zipIdx_at hx
      obtain ⟨r, hr, hmay⟩ := cg.step _ _ hik
      have hnt : k ∉ order.take i' := fun z => by
        obtain ⟨j, hj⟩ := List.mem_iff_getElem?.mp z
        have hj2 := (List.getElem?_eq_some_iff.mp hj).1
        rw [List.length_take] at hj2
        rw [List.getElem?_take_of_lt (by omega)] at hj
        have hjl := (List.getElem?_eq_some_iff.mp hj).1
        have := (List.getElem?_inj hjl cg.nd).mp (hj.trans hik.symm)
        omega
      have hkl : k < h.2.length := (List.getElem?_eq_some_iff.mp hr).1
      have e1 : decide ((0 : Int) ≤ (k : Int)) = true := decide_eq_true (by omega)
      have e2 : decide ((k : Int) < (h.2.length : Int)) = true := decide_eq_true (by omega)
      have hkl := hk.len
      have htl : (order.take i').length ≤ 1000 := by rw [List.length_take]; omega
      (first | simp_arith [open_get, hnt, atI_natE, hr, natsD, e1, e2] | skip)
      refine may_use (.inr ⟨rfl, rfl⟩) hk.all ?_
      have em : mayB (fun y => (walkL h (order.take i')).count y) r.1 = true := hmay
      (first | simp_arith [em, open_put hnt, openP_len] | skip)
      refine ⟨by omega, ?_⟩
      refine forW_fun PyData.str r.1 (fun j => ⟨[some (.d (houseD h)), some (.d (natsD order)), some (.r 0), none, some (.r 1), some (.d (.int (i' : Int))), some (.d (.int (k : Int))), some (.d (ksD r.1)), some (.d (ksD r.2))], [.dK (handP ks ((r.1.take j).foldl List.erase (walkL h (order.take i')))), .dK (openP (order.take i' ++ [k]))]⟩) rfl ?_ ?_
      · intro j x N2 hx2 hN2
        have hxm := may_mem hmay hx2
        have hxk : x ∈ ks := hk.all x (mem_foldl_erase hxm)
        (first | simp_arith [hand_at hxk, hand_sub hxk hxm, handP_len, natsD] | skip)
        refine ⟨by omega, hN2 _ ?_⟩
        rw [foldl_erase_snoc hx2]
        exact wk_of [] (by simp [SubS, ltO, AVal.lt, ksD, roomD, houseD, natsD]) rfl rfl (by simp)
      · rw [List.take_length]
        have hk2 : HandK ks (r.1.foldl List.erase (walkL h (order.take i'))) (allKeys h) := ⟨hk.nd, fun y hy => hk.all y (mem_foldl_erase hy), hk.few⟩
        generalize hL : r.1.foldl List.erase (walkL h (order.take i')) = L at hk2
        (first | simp_arith [natsD] | skip)
        refine forW_map PyData.str r.2 (fun j s => ∃ ks2, HandK ks2 (L ++ r.2.take j) (allKeys h) ∧ s = ⟨[some (.d (houseD h)), some (.d (natsD order)), some (.r 0), none, some (.r 1), some (.d (.int (i' : Int))), some (.d (.int (k : Int))), some (.d (ksD r.1)), some (.d (ksD r.2))], [.dK (handP ks2 (L ++ r.2.take j)), .dK (openP (order.take i' ++ [k]))]⟩) ⟨ks, by simpa using hk2, by simp [natsD, ksD, roomD, houseD]⟩ ?_ ?_
        · rintro j x s' N2 hx2 ⟨ks2, hk2, rfl⟩ hN2
          have hkl2 := hk2.len
          have hxa : x ∈ allKeys h := List.mem_append_right _ (List.mem_flatMap.mpr ⟨r, List.mem_of_getElem? hr, List.mem_of_getElem? hx2⟩)
          have ht : L ++ r.2.take (j + 1) = L ++ r.2.take j ++ [x] := by rw [List.take_add_one, hx2, List.append_assoc]; rfl
          (first | simp_arith [hand_get hk2.all, hand_add, handP_len, natsD] | skip)
          refine ⟨by omega, hN2 _ ⟨[some (.d (houseD h)), some (.d (natsD order)), some (.r 0), none, some (.r 1), some (.d (.int (i' : Int))), some (.d (.int (k : Int))), some (.d (ksD r.1)), some (.d (ksD r.2))], [.dK (handP (addK ks2 x) (L ++ r.2.take (j + 1))), .dK (openP (order.take i' ++ [k]))]⟩ (wk_of [] ?_ ?_ rfl (by simp)) ⟨addK ks2 x, ht ▸ hk2.add hxa, rfl⟩⟩
          · simp [SubS, ltO, AVal.lt, ksD, roomD, houseD, natsD]
          · rw [ht]; simp
        · rintro s' ⟨ks2, hk2, rfl⟩
          rw [List.take_length, ← hL] at hk2 ⊢
          have hw := walkL_snoc hik hr
          have ho : order.take (i' + 1) = order.take i' ++ [k] := by rw [List.take_add_one, hik]; rfl
          refine hN _ ⟨[some (.d (houseD h)), some (.d (natsD order)), some (.r 0), none, some (.r 1), none, none, none, none], [.dK (handP ks2 (walkL h (order.take (i' + 1)))), .dK (openP (order.take (i' + 1)))]⟩ (wk_of [] ?_ ?_ rfl (by simp)) ⟨ks2, hw ▸ hk2, rfl⟩
          · simp [SubS, ltO, AVal.lt, ksD, roomD, houseD, natsD]
          · rw [hw, ho]; rfl
    · rintro s' ⟨ks, hk, rfl⟩
      rw [List.length_zipIdx, List.take_length] at hk ⊢
      (first | simp_arith [natsD] | skip)
      exact ⟨by decide, q ks hk⟩
/-! part p_kbD -/
theorem txtKeys_hand (ks L : List Str) : txtKeys (dkv (handP ks L)) = some ks := by
  rw [dkv_handP]
  induction ks with
  | nil => rfl
  | cons k ks ih =>
    show (txtKeys (ks.map _)).map (k :: ·) = _
    rw [ih]; rfl
theorem getA_dkvP {ks L : List Str} {x : Str} (hx : x ∈ ks) : getA (dkv (handP ks L)) (.inr x) = some (.d (.int ((L.count x : Nat) : Int))) := by
  rw [dkv_handP, getA_map (fun y => AVal.d (.int ((L.count y : Nat) : Int))) (fun y : Str => (Sum.inr y : Key)) inr_inj x ks, if_pos hx]
theorem repL_ones (x : Str) (n : Nat) : repL (n : Int) [.str x] = (List.replicate n x).map PyData.str := by
  unfold repL
  rw [Int.toNat_natCast, flat_ones, List.map_replicate]
theorem outL_snoc {ks L : List Str} {i : Nat} {x : Str} (h : ks[i]? = some x) : outL (ks.take (i + 1)) L = outL (ks.take i) L ++ List.replicate (L.count x) x := by
  unfold outL
  rw [List.take_add_one, h, List.flatMap_append]
  simp
theorem outL_take {ks L : List Str} (nd : ks.Nodup) (h : ∀ x ∈ L, x ∈ ks) (i : Nat) : (outL ((srt ks).take i) L).length ≤ L.length := by
  have e := congrArg List.length (outL_eq nd h)
  rw [(srt_perm L).length_eq, ← List.take_append_drop i (srt ks)] at e
  unfold outL at e ⊢
  rw [List.flatMap_append, List.length_append] at e
  omega
theorem kb_use {h : House} {order : List Nat} {P : RV → List Cell → Prop} (sm : Small h) (cg : CanGo h order) (hol : order.length ≤ 100) (q : P (.n (.lst ((srt (walkL h order)).map .str))) []) : TT_keys_behind [.d (houseD h), .d (natsD order)] [] P := by
  have hal := allKeys_len sm
  have hw := walkL_len sm order
  (first | simp_arith [TT_keys_behind, tt_keys_behind] | skip)
  refine walked_use sm cg (by omega) fun ks hk => ?_
  have hkl := hk.len
  (first | simp_arith [txtKeys_hand, natsD] | skip)
  refine ⟨by omega, ?_⟩
  refine forW_fun PyData.str (srt ks) (fun i => ⟨[some (.d (houseD h)), some (.d (natsD order)), some (.d (dictD (handP ks (walkL h order)))), some (.d (dictD (openP order))), some (.r 0), none], [.lst ((outL ((srt ks).take i) (walkL h order)).map .str)]⟩) rfl ?_ ?_
  · intro i x N hx hN
    have hxk : x ∈ ks := mem_srt.mp (List.mem_of_getElem? hx)
    have h1 := outL_take hk.nd hk.all i
    have h2 := List.count_le_length (a := x) (l := walkL h order)
    (first | simp_arith [getA_dkvP hxk, repL_ones, List.length_replicate] | skip)
    refine ⟨by decide, ⟨by omega, by omega, ?_⟩, ?_, hN _ ?_⟩
    · rw [Int.toNat_natCast]
      exact Nat.le_trans (show _ ≤ 200000 by omega) (by decide)
    · exact Nat.le_trans (show _ ≤ 400000 by omega) (by decide)
    · rw [outL_snoc hx]
      exact wk_of [] (by simp [SubS, ltO, AVal.lt, ksD, roomD, houseD, natsD]) (by simp) rfl (by simp)
  · (first | simp_arith [onSome_some] | skip)
    rw [List.take_length, outL_eq hk.nd hk.all]
    exact q
/-! part p_next -/
def nextTo (h : House) (L : List Str) (order : List Nat) (j : Nat) : List Nat := (List.range j).filter fun k => !decide (k ∈ order) && mayAt h L k
theorem nextTo_len (h : House) (L : List Str) (order : List Nat) (j : Nat) : (nextTo h L order j).length ≤ j := by
  unfold nextTo
  exact Nat.le_trans (List.length_filter_le _ _) (by simp)
theorem nextTo_succ {h : House} {L : List Str} {order : List Nat} {j : Nat} : nextTo h L order (j + 1) = nextTo h L order j ++ (if (!decide (j ∈ order) && mayAt h L j) = true then [j] else []) := by
  unfold nextTo
  rw [List.range_succ, List.filter_append]
  congr 1
  rw [List.filter_cons]
  rfl
theorem nextr_use {h : House} {order : List Nat} {P : RV → List Cell → Prop} (sm : Small h) (cg : CanGo h order) (hol : order.length ≤ 1000) (q : P (.n (.lst ((nextL h (walkL h order) order).map fun k : Nat => .int (k : Int)))) []) : TT_next_rooms [.d (houseD h), .d (natsD order)] [] P := by
  (first | simp_arith [TT_next_rooms, tt_next_rooms] | skip)
  refine walked_use sm cg hol fun ks hk => ?_
  (first | simp_arith [natsD] | skip)
  rw [enumsD_map]
  refine forW_fun _ h.2.zipIdx (fun j => ⟨[some (.d (houseD h)), some (.d (natsD order)), some (.d (dictD (handP ks (walkL h order)))), some (.d (dictD (openP order))), some (.r 0), none, none, none], [.lst ((nextTo h (walkL h order) order j).map fun k : Nat => .int (k : Int))]⟩) rfl ?_ ?_
  · rintro i ⟨r, i'⟩ N hx hN
    obtain ⟨rfl, hr⟩ := zipIdx_at hx
    have hil : i' < h.2.length := (List.getElem?_eq_some_iff.mp hr).1
    have hlen := nextTo_len h (walkL h order) order i'
    have h3 := sm.r
    have em : mayAt h (walkL h order) i' = mayB (fun y => (walkL h order).count y) r.1 := by unfold mayAt; rw [hr]
    by_cases ho : i' ∈ order
    · have e : nextTo h (walkL h order) order (i' + 1) = nextTo h (walkL h order) order i' := by rw [nextTo_succ]; simp [ho]
      (first | simp_arith [open_get, ho, natsD] | skip)
      refine hN _ ?_
      rw [e]
      exact wk_of [] (by simp [SubS, ltO, AVal.lt, ksD, roomD, houseD, natsD]) (by simp) rfl (by simp)
    · (first | simp_arith [open_get, ho, natsD] | skip)
      refine may_use (.inl ⟨rfl, rfl⟩) hk.all ?_
      (first | simp_arith [onSome_some] | skip)
      split
      · rename_i hm
        have e : nextTo h (walkL h order) order (i' + 1) = nextTo h (walkL h order) order i' ++ [i'] := by rw [nextTo_succ, em, hm]; simp [ho]
        refine ⟨Nat.lt_of_le_of_lt (show (nextTo h (walkL h order) order i').length ≤ 3000 by omega) (by decide), hN _ ?_⟩
        rw [e]
        exact wk_of [] (by simp [SubS, ltO, AVal.lt, ksD, roomD, houseD, natsD]) (by simp) rfl (by simp)
      · rename_i hm
        have e : nextTo h (walkL h order) order (i' + 1) = nextTo h (walkL h order) order i' := by rw [nextTo_succ, em]; simp [hm]
        refine hN _ ?_
        rw [e]
        exact wk_of [] (by simp [SubS, ltO, AVal.lt, ksD, roomD, houseD, natsD]) (by simp) rfl (by simp)
  · (first | simp_arith [onSome_some] | skip)
    rw [List.length_zipIdx]
    exact q
/-! part p_lhand53 -/
/-! the law's own walk along an order -/
theorem all_in : ∀ {lo L : List Str}, (∀ j x, lo[j]? = some x → x ∈ (lo.take j).foldl List.erase L) → ∀ k, lo.count k ≤ L.count k
  | [], L, _, k => by simp
  | y :: lo, L, h, k => by
    have h0 : y ∈ L := h 0 y rfl
    have ih := all_in (lo := lo) (L := L.erase y) (fun j x hx => by simpa using h (j + 1) x (by simpa using hx)) k
    by_cases e : y = k
    · subst e
      have := List.count_pos_iff.mpr h0
      rw [List.count_erase_self] at ih
      rw [List.count_cons_self]
      omega
    · rw [List.count_erase_of_ne (fun z => e z.symm)] at ih
      rw [List.count_cons_of_ne e]
      exact ih
theorem may_of_in {lo L : List Str} (h : ∀ j x, lo[j]? = some x → x ∈ (lo.take j).foldl List.erase L) : (lo.all fun k => decide (lo.count k ≤ L.count k)) = true := List.all_eq_true.mpr fun k _ => decide_eq_true (all_in h k)
theorem CanGo.fresh {h : House} {order : List Nat} {i k : Nat} (cg : CanGo h order) (hk : order[i]? = some k) : k ∉ order.take i := fun z => by
  obtain ⟨j, hj⟩ := List.mem_iff_getElem?.mp z
  have hj2 := (List.getElem?_eq_some_iff.mp hj).1
  rw [List.length_take] at hj2
  rw [List.getElem?_take_of_lt (by omega)] at hj
  have hjl := (List.getElem?_eq_some_iff.mp hj).1
  have := (List.getElem?_inj hjl cg.nd).mp (hj.trans hk.symm)
  omega
theorem lhand_use {h : House} {order : List Nat} {P : RV → List Cell → Prop} (sm : Small h) (hol : order.length ≤ 100)
    (q : CanGo h order → P (.n (.lst ((srt (walkL h order)).map .str))) [])
    (qe : ¬ CanGo h order → P (.f .none) []) : TT_law_hand [.d (houseD h), .d (natsD order)] [] P := by
  have szl : 10000 < sizeLine := by decide
  (first | simp_arith [TT_law_hand, tt_law_hand, natsD] | skip)
  refine ⟨by omega, by omega, ?_⟩
  rw [intsD_natE]
  refine forW_map _ (List.range order.length) (fun i s => CanGo h (order.take i) ∧ s = ⟨[some (.d (houseD h)), some (.d (natsD order)), some (.r 0), none, none], [.lst ((walkL h (order.take i)).map .str)]⟩) ⟨by simpa using CanGo.nil h, by simp [walkL, houseD, ksD, natsD]⟩ ?_ ?_
  · rintro i x s' N hx ⟨cg, rfl⟩ hN
    have hi : i < order.length := by have := (List.getElem?_eq_some_iff.mp hx).1; simpa using this
    have hxi : x = i := by
      rw [List.getElem?_range hi] at hx
      cases hx; rfl
    subst hxi
    have hk : order[x]? = some order[x] := List.getElem?_eq_getElem hi
    generalize order[x] = k at hk
    have ec : cutD (order.map fun k : Nat => PyData.int (k : Int)) none (some (x : Int)) = (order.take x).map fun k : Nat => PyData.int (k : Int) := by rw [cutD_take, List.map_take]
    have hA : L2.atI order (x : Int) = some k := by rw [atI_natE]; exact hk

    by_cases h1 : h.2.length ≤ k
    · have d2 : decide ((h.2.length : Int) ≤ (k : Int)) = true := decide_eq_true (by omega)
      (first | simp_arith [natsD, hA, ec, d2] | skip)
      refine qe fun cg2 => ?_
      obtain ⟨r, hr, _⟩ := cg2.step x k hk
      have := (List.getElem?_eq_some_iff.mp hr).1
      omega
    · have d2 : decide ((h.2.length : Int) ≤ (k : Int)) = false := decide_eq_false (by omega)
      have hr : h.2[k]? = some (h.2[k]'(by omega)) := List.getElem?_eq_getElem _
      generalize h.2[k]'(by omega) = r at hr
      by_cases hin : k ∈ order.take x
      · (first | simp_arith [natsD, hA, ec, d2, hin] | skip)
        exact qe fun cg2 => cg2.fresh hk hin
      · have hB : L2.atI h.2 (k : Int) = some r := by rw [atI_natE]; exact hr
        (first | simp_arith [natsD, hA, ec, d2, hin, hB] | skip)
        have hw := walkL_len sm (order.take x)
        refine forW_map PyData.str r.1 (fun j s => (∀ j' x', j' < j → r.1[j']? = some x' → x' ∈ (r.1.take j').foldl List.erase (walkL h (order.take x))) ∧ s = ⟨[some (.d (houseD h)), some (.d (natsD order)), some (.r 0), some (.d (.int (x : Int))), none], [.lst (((r.1.take j).foldl List.erase (walkL h (order.take x))).map .str)]⟩) ⟨fun _ _ z _ => absurd z (Nat.not_lt_zero _), by simp [houseD, ksD, natsD]⟩ ?_ ?_
        · rintro j y s' N2 hy ⟨hal, rfl⟩ hN2
          by_cases hyL : y ∈ (r.1.take j).foldl List.erase (walkL h (order.take x))
          · (first | simp_arith [hyL] | skip)
            refine hN2 _ ⟨[some (.d (houseD h)), some (.d (natsD order)), some (.r 0), some (.d (.int (x : Int))), none], [.lst (((r.1.take (j + 1)).foldl List.erase (walkL h (order.take x))).map .str)]⟩ (wk_of [] (by simp [SubS, ltO, AVal.lt, ksD, roomD, houseD, natsD]) (by rw [foldl_erase_snoc hy]; rfl) rfl (by simp)) ⟨fun j' x' hj' hx' => ?_, rfl⟩
            by_cases e : j' = j
            · subst e
              rw [hy] at hx'
              cases hx'
              exact hyL
            · exact hal j' x' (by omega) hx'
          · (first | simp_arith [hyL] | skip)
            refine qe fun cg2 => hyL ?_
            obtain ⟨r2, hr2, hm⟩ := cg2.step x k hk
            rw [hr] at hr2
            cases hr2
            exact may_mem hm hy
        · rintro s' ⟨hal, rfl⟩
          rw [List.take_length]
          have hmay := may_of_in (lo := r.1) (L := walkL h (order.take x)) fun j y hy => hal j y (List.getElem?_eq_some_iff.mp hy).1 hy
          have hw2 := walkL_snoc hk hr
          have ht : order.take (x + 1) = order.take x ++ [k] := by rw [List.take_add_one, hk]; rfl
          have cg2 : CanGo h (order.take (x + 1)) := by rw [ht]; exact cg.snoc hin hr hmay
          have hel := foldl_erase_len r.1 (walkL h (order.take x))
          have hk3 := one_le (List.mem_of_getElem? hr)
          have hk4 := sm.k
          have htl : (order.take x).length ≤ 100 := by rw [List.length_take]; omega
          have szl2 : 200000 < sizeLine := by decide
          (first | simp_arith [natsD, hA, hB] | skip)
          refine ⟨by omega, hN _ ⟨[some (.d (houseD h)), some (.d (natsD order)), some (.r 0), none, none], [.lst ((walkL h (order.take (x + 1))).map .str)]⟩ (wk_pick (m := 0) [1] [.lst ((walkL h (order.take (x + 1))).map .str)] ?_ (by decide) (by decide) ?_ rfl rfl (by simp)) ⟨cg2, rfl⟩⟩
          · simp [SubQ, partQ, hasR, ksD, houseD, natsD]
          · rw [hw2]
            simp [subC, behindL]
  · rintro s' ⟨cg, rfl⟩
    rw [List.length_range, List.take_length] at cg ⊢
    (first | simp_arith [onSome_some] | skip)
    exact q cg
def nextC (h : House) (order : List Nat) : List Nat := nextL h (walkL h order) order
theorem lnext_use {h : House} {order : List Nat} {P : RV → List Cell → Prop} (sm : Small h) (cg : CanGo h order) (hol : order.length ≤ 90) (q : P (.n (.lst ((nextC h order).map fun k : Nat => .int (k : Int)))) []) : TT_law_next [.d (houseD h), .d (natsD order)] [] P := by
  have szl : 10000 < sizeLine := by decide
  have h3 := sm.r
  (first | simp_arith [TT_law_next, tt_law_next, natsD] | skip)
  refine ⟨by omega, by omega, ?_⟩
  rw [intsD_natE]
  refine lcW_map trivial (fun k : Nat => PyData.int (k : Int)) (fun k => !decide (k ∈ order) && mayAt h (walkL h order) k) (fun k : Nat => PyData.int (k : Int)) (fun k hk R1 R2 g1 g2 => ?_) ?_
  · have e1 : (order.map fun i : Nat => PyData.int (i : Int)) ++ [.int (k : Int)] = (order ++ [k]).map fun i : Nat => PyData.int (i : Int) := by simp
    (first | simp_arith [e1] | skip)
    refine ⟨by omega, by omega, ?_⟩
    refine lhand_use sm (by simp; omega) (fun cg2 => ?_) (fun cg2 => ?_)
    · (first | simp_arith [onSome_some] | skip)
      refine g1 ?_
      have hf : k ∉ order := fun z => by
        obtain ⟨j, hj⟩ := List.mem_iff_getElem?.mp z
        have hj2 := (List.getElem?_eq_some_iff.mp hj).1
        exact cg2.fresh (i := order.length) (k := k) (by simp) (by simp [z])
      obtain ⟨r, hr, hm⟩ := cg2.step order.length k (by simp)
      rw [List.take_left' rfl] at hm
      simp only [hf, decide_false, Bool.not_false, Bool.true_and]
      unfold mayAt
      rw [hr]
      exact hm
    · (first | simp_arith [onSome_some] | skip)
      refine g2 ?_
      by_cases hf : k ∈ order
      · simp [hf]
      · cases em : mayAt h (walkL h order) k with
        | false => simp
        | true =>
          unfold mayAt at em
          have hkl : k < h.2.length := List.mem_range.mp hk
          have hr : h.2[k]? = some h.2[k] := List.getElem?_eq_getElem hkl
          rw [hr] at em
          exact absurd (cg.snoc hf hr em) cg2
  · (first | simp_arith [onSome_some] | skip)
    exact q
/-! part p_rows53 -/
/-! the law's rows -/
theorem row_keys (W : List Str) (h : W ≠ []) : Str.ofString "keys " ++ Txt.join (Str.ofString " ") W = rowT ("keys" :: W) := by
  cases W with
  | nil => exact absurd rfl h
  | cons x W =>
    unfold rowT
    rw [txt_join, txt_join, join_cons]
    have : Str.ofString "keys " = ("keys" : Str) ++ (" " : Str) := by decide +kernel
    rw [this]
theorem row_room (a : Str) (W : List Str) (h : W ≠ []) : Str.ofString "room " ++ a ++ Str.ofString " " ++ Txt.join (Str.ofString " ") W = rowT ("room" :: a :: W) := by
  cases W with
  | nil => exact absurd rfl h
  | cons x W =>
    unfold rowT
    rw [txt_join, txt_join, join_cons, join_cons]
    have : Str.ofString "room " = ("room" : Str) ++ (" " : Str) := by decide +kernel
    rw [this]
    refine str_extL ?_
    simp only [str_app, List.append_assoc]
theorem dashW_ne (ks : List Str) : dashW ks ≠ [] := by
  unfold dashW
  split
  · simp
  · assumption
theorem dash_add (ks : List Str) : ks.map PyData.str ++ repL (if (ks.map PyData.str).isEmpty = true then 1 else 0) [PyData.str (Str.ofString "-")] = (dashW ks).map PyData.str := by
  cases ks with
  | nil => rfl
  | cons k ks =>
    have h0 : repL 0 [PyData.str (Str.ofString "-")] = [] := rfl
    rw [List.map_cons, List.isEmpty_cons, if_neg (by decide), h0, List.append_nil]
    rfl
theorem dash_sum {ks : List Str} (hk : Kds ks) : ((dashW ks).map (·.length)).sum ≤ 4 * ks.length + 1 := by
  unfold dashW
  split
  · rename_i e; subst e
    show ((("-" : Str).length) + 0 : Nat) ≤ _
    exact Nat.le_refl 1
  · have := sum_kinds hk; omega
theorem dash_len (ks : List Str) : (dashW ks).length ≤ ks.length + 1 := by
  unfold dashW
  split
  · simp
  · omega
def rotL (ls : List Str) (n : Nat) : List Str := ls.drop n ++ ls.take n
theorem rot_perm (ls : List Str) (n : Nat) : (rotL ls n).Perm ls := by
  unfold rotL
  exact List.perm_append_comm.trans (by rw [List.take_append_drop])
def RowOf (r : Room') (z : Str) : Prop := ∃ ls, ls.Perm r.1 ∧ z = rowT ("room" :: Txt.join "+" ls :: dashW r.2)
def keysRow (ks : List Str) : Str := rowT ("keys" :: dashW ks)
theorem dash_ok (ks : List Str) : ((-2 ^ 63 : Int) ≤ if (ks.map PyData.str).isEmpty = true then 1 else 0) ∧ (if (ks.map PyData.str).isEmpty = true then 1 else 0 : Int) < 2 ^ 63 ∧ 1 * (if (ks.map PyData.str).isEmpty = true then 1 else 0 : Int).toNat ≤ sizeLine := by
  split <;> exact ⟨by decide, by decide, by decide⟩
theorem dash_rep (ks : List Str) (h : ks.length ≤ 10000) : ks.length + (repL (if (ks.map PyData.str).isEmpty = true then 1 else 0) [PyData.str (Str.ofString "-")]).length ≤ sizeLine := by
  have szl : 200000 < sizeLine := by decide
  split
  · have : (repL 1 [PyData.str (Str.ofString "-")]).length = 1 := rfl
    omega
  · have : (repL 0 [PyData.str (Str.ofString "-")]).length = 0 := rfl
    omega
theorem cutD_drop (ds : List PyData) (n : Nat) : cutD ds (some (n : Int)) none = ds.drop n := by
  unfold cutD
  rw [HT.sIx_nat, HT.sIx_none]
  by_cases h : n ≤ ds.length
  · rw [Nat.min_eq_left h]
    exact List.take_of_length_le (by rw [List.length_drop]; exact Nat.le_refl _)
  · rw [Nat.min_eq_right (by omega), List.drop_of_length_le (by omega : ds.length ≤ n), List.drop_of_length_le (Nat.le_refl _)]
    simp
theorem house_rows_use {h : House} {ns : List Int} {P : RV → List Cell → Prop} (w : Wh h)
    (q : ∀ (zs : List Str) (ns' : List Int), Paired RowOf h.2 zs → P (.n (.lst ((keysRow h.1 :: zs).map .str))) [.lst (ns'.map .int)]) : TT_law_house_rows [.r 0, .d (houseD h)] [.lst (ns.map .int)] P := by
  have szl : 200000 < sizeLine := by decide
  have h4 := w.b
  have h5 := w.r
  have hs1 : (Str.ofString " ").length = 1 := rfl
  have hs2 : (Str.ofString "+").length = 1 := rfl
  have hs3 : (Str.ofString "keys ").length = 5 := rfl
  have hs4 : (Str.ofString "room ").length = 5 := rfl
  have hd := dash_sum w.good.keys
  have hdl := dash_len h.1
  have hjk := StrLaws.join_length_le (" " : Str) (dashW h.1)
  rw [show (" " : Str).length = 1 from rfl] at hjk
  have hs5 : (" " : Str).length = 1 := rfl
  (first | simp_arith [TT_law_house_rows, tt_law_house_rows, dash_add] | skip)
  refine ⟨by omega, dash_ok _, dash_rep _ (by omega), by rw [hs1]; omega, by rw [txt_join, hs3]; omega, by omega, ?_⟩
  rw [row_keys _ (dashW_ne _)]
  refine forW_map roomD h.2 (fun i s => ∃ (zs : List Str) (ns' : List Int), Paired RowOf (h.2.take i) zs ∧ s = ⟨[some (.r 0), some (.d (houseD h)), some (.r 1), none, none, none, none], [.lst (ns'.map .int), .lst ((keysRow h.1 :: zs).map .str)]⟩) ⟨[], ns, by simpa using Paired.nil, by simp [houseD, ksD, keysRow]⟩ ?_ ?_
  · rintro i r s' N hx ⟨zs, ns1, hz, rfl⟩ hN
    have hrm := List.mem_of_getElem? hx
    obtain ⟨g1, g2, g3, g4, g5⟩ := w.good.rooms r hrm
    have h3 := w.k r hrm
    have hd := dash_sum g2
    have hdl := dash_len r.2
    have hjk := StrLaws.join_length_le (" " : Str) (dashW r.2)
    rw [show (" " : Str).length = 1 from rfl] at hjk
    have hzl := Paired.len hz
    rw [List.length_take] at hzl
    (first | simp_arith [onSome_some] | skip)
    refine take_use (by omega) fun by_ ns2 hby => ?_
    have e1 : cutD (r.1.map PyData.str) (some (by_ : Int)) none = (r.1.drop by_).map PyData.str := by rw [cutD_drop, List.map_drop]
    have e2 : cutD (r.1.map PyData.str) none (some (by_ : Int)) = (r.1.take by_).map PyData.str := by rw [cutD_take, List.map_take]
    have e3 : (r.1.drop by_).map PyData.str ++ (r.1.take by_).map PyData.str = (rotL r.1 by_).map PyData.str := by unfold rotL; rw [List.map_append]
    have hrot := rot_perm r.1 by_
    have hrk : Kds (rotL r.1 by_) := fun k hk => g1 k (hrot.mem_iff.mp hk)
    have hrl := hrot.length_eq
    have hsr := sum_kinds hrk
    have hjr := StrLaws.join_length_le ("+" : Str) (rotL r.1 by_)
    rw [show ("+" : Str).length = 1 from rfl] at hjr
    (first | simp_arith [e1, e2, e3, dash_add] | skip)
    have l1 : (List.drop by_ r.1).length + (List.take by_ r.1).length ≤ 4 := by rw [List.length_drop, List.length_take]; omega
    refine ⟨by omega, by rw [hs2]; omega, by rw [txt_join, hs4]; omega, by rw [Str.length_append, txt_join, hs4, hs1]; omega, by omega, dash_ok _, dash_rep _ (by omega), by rw [hs1]; omega, ?_, by omega, ?_⟩
    · rw [Str.length_append, Str.length_append, txt_join, txt_join, hs4, hs1]; omega
    rw [row_room _ _ (dashW_ne _)]
    have ht : h.2.take (i + 1) = h.2.take i ++ [r] := by rw [List.take_add_one, hx]; rfl
    refine hN _ ⟨[some (.r 0), some (.d (houseD h)), some (.r 1), none, none, none, none], [.lst (ns2.map .int), .lst ((keysRow h.1 :: (zs ++ [rowT ("room" :: Txt.join "+" (rotL r.1 by_) :: dashW r.2)])).map .str)]⟩ (wk_of [] (by simp [SubS, ltO, AVal.lt, houseD, ksD]) (by simp) rfl (by simp)) ⟨zs ++ [rowT ("room" :: Txt.join "+" (rotL r.1 by_) :: dashW r.2)], ns2, ?_, rfl⟩
    rw [ht]
    exact paired_snoc hz ⟨_, hrot, rfl⟩
  · rintro s' ⟨zs, ns1, hz, rfl⟩
    rw [List.take_length] at hz
    (first | simp_arith [onSome_some] | skip)
    exact q zs ns1 hz
/-! part p_desk -/
/-! the desk -/
def deskF : List Str := ["first_keys", "rooms_here", "worths", "gone_here"]
def deskT (O : OT) (dx a1 a2 q : Addr) (ks : List Str) (rs : List Room') (ws go : List Nat) : Tr := .nd (.obj O.desk dx deskF) q [.d (ksD ks), .nd .lst a1 ((rs.map roomD).map Tr.d), .nd .lst a2 ((ws.map fun n : Nat => PyData.int (n : Int)).map Tr.d), .d (natsD go)]
def IsDesk (O : OT) (ks : List Str) (rs : List Room') (ws go : List Nat) (t : Tr) : Prop := ∃ dx a1 a2 q, t = deskT O dx a1 a2 q ks rs ws go
theorem ld1 : lookF "first_keys" [] = none := rfl
theorem ld2 : lookF "rooms_here" ["first_keys"] = none := by decide
theorem ld3 : lookF "worths" ["first_keys", "rooms_here"] = none := by decide
theorem ld4 : lookF "gone_here" ["first_keys", "rooms_here", "worths"] = none := by decide
theorem lf1 : lookF "first_keys" ["first_keys", "rooms_here", "worths", "gone_here"] = some 0 := by decide
theorem lf2 : lookF "rooms_here" ["first_keys", "rooms_here", "worths", "gone_here"] = some 1 := by decide
theorem lf3 : lookF "worths" ["first_keys", "rooms_here", "worths", "gone_here"] = some 2 := by decide
theorem lf4 : lookF "gone_here" ["first_keys", "rooms_here", "worths", "gone_here"] = some 3 := by decide
theorem lm1 : lookF "begin_anew" [] = none := rfl
theorem lm2 : lookF "begin_anew" ["first_keys", "rooms_here", "worths", "gone_here"] = none := by decide
theorem lm3 : lookF "house" ["first_keys", "rooms_here", "worths", "gone_here"] = none := by decide
theorem lm4 : lookF "put_room" ["first_keys", "rooms_here", "worths", "gone_here"] = none := by decide
theorem lm5 : lookF "changed" ["first_keys", "rooms_here", "worths", "gone_here"] = none := by decide
theorem lm6 : lookF "stands" ["first_keys", "rooms_here", "worths", "gone_here"] = none := by decide
theorem lm7 : lookF "say" ["first_keys", "rooms_here", "worths", "gone_here"] = none := by decide
theorem begin_new_use {O : OT} {dx q : Addr} {P : RV → List Cell → Prop} (h : ∀ t, IsDesk O [] [] [] [] t → P (.f .none) [.tr t]) : TT_Desk_begin_anew O [.r 0] [.tr (.nd (.obj O.desk dx []) q [])] P := by
  (first | simp_all_arith [TT_Desk_begin_anew, tt_Desk_begin_anew, ld1, ld2, ld3, ld4, gone_gone] | skip)
  exact fun g g1 => h _ ⟨dx, g 1, g1 2, q, rfl⟩
theorem begin_use {O : OT} {ks : List Str} {rs : List Room'} {ws go : List Nat} {t : Tr} {P : RV → List Cell → Prop} (ht : IsDesk O ks rs ws go t) (h : ∀ t, IsDesk O [] [] [] [] t → P (.f .none) [.tr t]) : TT_Desk_begin_anew O [.r 0] [.tr t] P := by
  obtain ⟨dx, a1, a2, q, rfl⟩ := ht
  (first | simp_all_arith [TT_Desk_begin_anew, tt_Desk_begin_anew, deskT, deskF, lf1, lf2, lf3, lf4, gone_gone] | skip)
  exact fun g g1 => h _ ⟨dx, g 1, g1 2, q, rfl⟩
theorem desk_init_use {O : OT} {dx q : Addr} {P : RV → List Cell → Prop} (h : ∀ t, IsDesk O [] [] [] [] t → P (.f .none) [.tr t]) : TT_Desk_init O [.r 0] [.tr (.nd (.obj O.desk dx []) q [])] P := by
  (first | simp_arith [TT_Desk_init, tt_Desk_init, lm1] | skip)
  refine begin_new_use fun t ht => ?_
  (first | simp_arith [onSome_some] | skip)
  exact h t ht
theorem desk_house_use {O : OT} {ks : List Str} {rs : List Room'} {ws go : List Nat} {t : Tr} {P : RV → List Cell → Prop} (ht : IsDesk O ks rs ws go t) (hl : ks.length ≤ 1000) (hr : rs.length ≤ 1000) (h : P (.f (houseD (ks, rs))) [.tr t]) : TT_Desk_house O [.r 0] [.tr t] P := by
  have szl : 100000 < sizeLine := by decide
  obtain ⟨dx, a1, a2, q, rfl⟩ := ht
  (first | simp_all_arith [TT_Desk_house, tt_Desk_house, deskT, deskF, lf1, lf2, leafs_map, List.length_map] | skip)
  exact ⟨by omega, h⟩
theorem noneV_str {z : Str} : noneV (.d (.str z)) = some false := rfl
theorem ixN_at {n j : Nat} (h : j < n) : L2.ixN n (j : Int) = some j := by
  unfold L2.ixN
  rw [if_pos (by omega), if_pos (by omega), Int.toNat_natCast]
theorem room_cat (rs : List Room') (ls gs : List Str) : (rs.map roomD).map Tr.d ++ [Tr.d (.tuple [ksD ls, ksD gs])] = ((rs ++ [((ls, gs) : Room')]).map roomD).map Tr.d := by
  rw [List.map_append, List.map_append]; rfl
theorem zero_cat (ws : List Nat) : (ws.map fun n : Nat => PyData.int (n : Int)).map Tr.d ++ [Tr.d (.int 0)] = ((ws ++ [0]).map fun n : Nat => PyData.int (n : Int)).map Tr.d := by
  rw [List.map_append, List.map_append]; rfl
theorem worth_set (ws : List Nat) (i v : Nat) : ((ws.map fun n : Nat => PyData.int (n : Int)).map Tr.d).set i (Tr.d (.int (v : Int))) = ((ws.set i v).map fun n : Nat => PyData.int (n : Int)).map Tr.d := by
  rw [List.map_set, List.map_set]
theorem nw_room_keys : decide (Str.ofString "room" = Str.ofString "keys") = false := by decide +kernel
theorem nw_worth_keys : decide (Str.ofString "worth" = Str.ofString "keys") = false := by decide +kernel
theorem nw_worth_room : decide (Str.ofString "worth" = Str.ofString "room") = false := by decide +kernel
theorem nw_new_keys : decide (Str.ofString "new" = Str.ofString "keys") = false := by decide +kernel
theorem nw_new_room : decide (Str.ofString "new" = Str.ofString "room") = false := by decide +kernel
theorem nw_new_worth : decide (Str.ofString "new" = Str.ofString "worth") = false := by decide +kernel
theorem nw_new_open : decide (Str.ofString "new" = Str.ofString "open") = false := by decide +kernel
theorem nw_new_back : decide (Str.ofString "new" = Str.ofString "back") = false := by decide +kernel
theorem nw_hand_keys : decide (Str.ofString "hand" = Str.ofString "keys") = false := by decide +kernel
theorem nw_hand_room : decide (Str.ofString "hand" = Str.ofString "room") = false := by decide +kernel
theorem nw_hand_worth : decide (Str.ofString "hand" = Str.ofString "worth") = false := by decide +kernel
theorem nw_hand_open : decide (Str.ofString "hand" = Str.ofString "open") = false := by decide +kernel
theorem nw_hand_back : decide (Str.ofString "hand" = Str.ofString "back") = false := by decide +kernel
theorem nw_hand_new : decide (Str.ofString "hand" = Str.ofString "new") = false := by decide +kernel
theorem nw_next_keys : decide (Str.ofString "next" = Str.ofString "keys") = false := by decide +kernel
theorem nw_next_room : decide (Str.ofString "next" = Str.ofString "room") = false := by decide +kernel
theorem nw_next_worth : decide (Str.ofString "next" = Str.ofString "worth") = false := by decide +kernel
theorem nw_next_open : decide (Str.ofString "next" = Str.ofString "open") = false := by decide +kernel
theorem nw_next_back : decide (Str.ofString "next" = Str.ofString "back") = false := by decide +kernel
theorem nw_next_new : decide (Str.ofString "next" = Str.ofString "new") = false := by decide +kernel
theorem nw_next_hand : decide (Str.ofString "next" = Str.ofString "hand") = false := by decide +kernel
theorem nw_gone_keys : decide (Str.ofString "gone" = Str.ofString "keys") = false := by decide +kernel
theorem nw_gone_room : decide (Str.ofString "gone" = Str.ofString "room") = false := by decide +kernel
theorem nw_gone_worth : decide (Str.ofString "gone" = Str.ofString "worth") = false := by decide +kernel
theorem nw_gone_open : decide (Str.ofString "gone" = Str.ofString "open") = false := by decide +kernel
theorem nw_gone_back : decide (Str.ofString "gone" = Str.ofString "back") = false := by decide +kernel
theorem nw_gone_new : decide (Str.ofString "gone" = Str.ofString "new") = false := by decide +kernel
theorem nw_gone_hand : decide (Str.ofString "gone" = Str.ofString "hand") = false := by decide +kernel
theorem nw_gone_next : decide (Str.ofString "gone" = Str.ofString "next") = false := by decide +kernel
theorem nw_show_keys : decide (Str.ofString "show" = Str.ofString "keys") = false := by decide +kernel
theorem nw_show_room : decide (Str.ofString "show" = Str.ofString "room") = false := by decide +kernel
theorem nw_show_worth : decide (Str.ofString "show" = Str.ofString "worth") = false := by decide +kernel
theorem nw_show_open : decide (Str.ofString "show" = Str.ofString "open") = false := by decide +kernel
theorem nw_show_back : decide (Str.ofString "show" = Str.ofString "back") = false := by decide +kernel
theorem nw_show_new : decide (Str.ofString "show" = Str.ofString "new") = false := by decide +kernel
theorem nw_show_hand : decide (Str.ofString "show" = Str.ofString "hand") = false := by decide +kernel
theorem nw_show_next : decide (Str.ofString "show" = Str.ofString "next") = false := by decide +kernel
theorem nw_show_gone : decide (Str.ofString "show" = Str.ofString "gone") = false := by decide +kernel
theorem nw_rooms_keys : decide (Str.ofString "rooms" = Str.ofString "keys") = false := by decide +kernel
theorem nw_rooms_room : decide (Str.ofString "rooms" = Str.ofString "room") = false := by decide +kernel
theorem nw_rooms_worth : decide (Str.ofString "rooms" = Str.ofString "worth") = false := by decide +kernel
theorem nw_rooms_open : decide (Str.ofString "rooms" = Str.ofString "open") = false := by decide +kernel
theorem nw_rooms_back : decide (Str.ofString "rooms" = Str.ofString "back") = false := by decide +kernel
theorem nw_rooms_new : decide (Str.ofString "rooms" = Str.ofString "new") = false := by decide +kernel
theorem nw_rooms_hand : decide (Str.ofString "rooms" = Str.ofString "hand") = false := by decide +kernel
theorem nw_rooms_next : decide (Str.ofString "rooms" = Str.ofString "next") = false := by decide +kernel
theorem nw_rooms_gone : decide (Str.ofString "rooms" = Str.ofString "gone") = false := by decide +kernel
theorem nw_rooms_show : decide (Str.ofString "rooms" = Str.ofString "show") = false := by decide +kernel
theorem put_room_use {E : ExT} {O : OT} {ks ls gs : List Str} {rs : List Room'} {ws go : List Nat} {t : Tr} {P : RV → List Cell → Prop} {PE : PyData → List Cell → Prop} (ht : IsDesk O ks rs ws go t) (hr : rs.length ≤ 12) (hw : ws.length = rs.length)
    (h : rs.length < 12 → ∀ t', IsDesk O ks (rs ++ [(ls, gs)]) (ws ++ [0]) [] t' → P (.f .none) [.tr t']) (he : rs.length = 12 → PE (errD (E.c .many) (.list [])) [.tr t]) : TT_Desk_put_room E O [.r 0, .d (ksD ls), .d (ksD gs)] [.tr t] P PE := by
  have szl : 100000 < sizeLine := by decide
  obtain ⟨dx, a1, a2, q, rfl⟩ := ht
  (first | simp_all_arith [TT_Desk_put_room, tt_Desk_put_room, deskT, deskF, lf1, lf2, lf3, lf4, leafs_map, kids_len, List.length_map, excP] | skip)
  split
  · rename_i e
    have e := of_decide_eq_true e
    exact he (by omega)
  · rename_i e
    have e : ¬ ((rs.length : Int) = 12) := fun z => e (decide_eq_true z)
    refine ⟨by omega, by omega, by omega, ?_⟩
    have hh := h (by omega) _ ⟨dx, a1, a2, q, rfl⟩
    unfold deskT at hh
    rw [← room_cat, ← zero_cat] at hh
    exact hh
theorem changed_keys {E : ExT} {O : OT} {ks gs : List Str} {rs : List Room'} {ws go : List Nat} {t : Tr} {P : RV → List Cell → Prop} {PE : PyData → List Cell → Prop} (ht : IsDesk O ks rs ws go t) (h : ∀ t', IsDesk O gs rs ws [] t' → P (.f (.bool true)) [.tr t']) : TT_Desk_changed E O [.r 0, .d (.list [.str "keys", ksD gs])] [.tr t] P PE := by
  obtain ⟨dx, a1, a2, q, rfl⟩ := ht
  (first | simp_all_arith [TT_Desk_changed, tt_Desk_changed, deskT, deskF, lf1, lf4] | skip)
  exact h _ ⟨dx, a1, a2, q, rfl⟩
theorem changed_room {E : ExT} {O : OT} {ks ls gs : List Str} {rs : List Room'} {ws go : List Nat} {t : Tr} {P : RV → List Cell → Prop} {PE : PyData → List Cell → Prop} (ht : IsDesk O ks rs ws go t) (hr : rs.length ≤ 12) (hw : ws.length = rs.length)
    (h : rs.length < 12 → ∀ t', IsDesk O ks (rs ++ [(ls, gs)]) (ws ++ [0]) [] t' → P (.f (.bool true)) [.tr t']) (he : rs.length = 12 → PE (errD (E.c .many) (.list [])) [.tr t]) : TT_Desk_changed E O [.r 0, .d (.list [.str "room", ksD ls, ksD gs])] [.tr t] P PE := by
  obtain ⟨dx, a1, a2, q, rfl⟩ := ht
  (first | simp_all_arith [TT_Desk_changed, tt_Desk_changed, nw_room_keys, deskT, deskF, lm4] | skip)
  refine put_room_use (ls := ls) (gs := gs) ⟨dx, a1, a2, q, rfl⟩ hr hw (fun hl t' ht' => ?_) (fun hl => ?_)
  · (first | simp_arith [onSome_some] | skip)
    exact h hl t' ht'
  · (first | simp_arith [excP] | skip)
    exact he hl
theorem changed_worth {E : ExT} {O : OT} {ks : List Str} {rs : List Room'} {ws go : List Nat} {i v : Nat} {t : Tr} {P : RV → List Cell → Prop} {PE : PyData → List Cell → Prop} (ht : IsDesk O ks rs ws go t) (hw : ws.length = rs.length)
    (h : i < rs.length → ∀ t', IsDesk O ks rs (ws.set i v) go t' → P (.f (.bool true)) [.tr t']) (he : ¬ i < rs.length → PE (errD (E.c .step) (.list [.none])) [.tr t]) : TT_Desk_changed E O [.r 0, .d (.list [.str "worth", .int (i : Int), .int (v : Int)])] [.tr t] P PE := by
  obtain ⟨dx, a1, a2, q, rfl⟩ := ht
  (first | simp_all_arith [TT_Desk_changed, tt_Desk_changed, nw_worth_keys, nw_worth_room, deskT, deskF, lf2, lf3, leafs_map, kids_len, List.length_map] | skip)
  split
  · rename_i e
    have e := of_decide_eq_true e
    exact he (by omega)
  · rename_i e
    have e : ¬ ((rs.length : Int) ≤ (i : Int)) := fun z => e (decide_eq_true z)
    rw [ixN_at (by omega), onSome_some]
    have hh := h (by omega) _ ⟨dx, a1, a2, q, rfl⟩
    unfold deskT at hh
    rw [← worth_set] at hh
    exact hh
theorem changed_new {E : ExT} {O : OT} {ks : List Str} {rs : List Room'} {ws go : List Nat} {t : Tr} {P : RV → List Cell → Prop} {PE : PyData → List Cell → Prop} (ht : IsDesk O ks rs ws go t)
    (h : ∀ t', IsDesk O [] [] [] [] t' → P (.f (.bool true)) [.tr t']) : TT_Desk_changed E O [.r 0, .d (.list [.str "new"])] [.tr t] P PE := by
  have hn : ∃ dx a1 a2 q, t = deskT O dx a1 a2 q ks rs ws go := ht
  obtain ⟨dx, a1, a2, q, rfl⟩ := hn
  (first | simp_all_arith [TT_Desk_changed, tt_Desk_changed, nw_new_keys, nw_new_room, nw_new_worth, nw_new_open, nw_new_back, deskT, deskF, lm2] | skip)
  refine begin_use ⟨dx, a1, a2, q, rfl⟩ fun t' ht' => ?_
  (first | simp_arith [onSome_some] | skip)
  exact h t' ht'
theorem put_room_n_use {O : OT} {ks ls gs : List Str} {rs : List Room'} {ws go : List Nat} {t : Tr} {P : RV → List Cell → Prop} (ht : IsDesk O ks rs ws go t) (hr : rs.length ≤ 12) (hw : ws.length = rs.length)
    (hl : rs.length < 12) (h : rs.length < 12 → ∀ t', IsDesk O ks (rs ++ [(ls, gs)]) (ws ++ [0]) [] t' → P (.f .none) [.tr t']) : TT_Desk_put_room_n O [.r 0, .d (ksD ls), .d (ksD gs)] [.tr t] P := by
  have szl : 100000 < sizeLine := by decide
  obtain ⟨dx, a1, a2, q, rfl⟩ := ht
  (first | simp_all_arith [TT_Desk_put_room_n, tt_Desk_put_room_n, deskT, deskF, lf1, lf2, lf3, lf4, leafs_map, kids_len, List.length_map, excP] | skip)
  split
  · rename_i e
    have e := of_decide_eq_true e
    omega
  · rename_i e
    have e : ¬ ((rs.length : Int) = 12) := fun z => e (decide_eq_true z)
    refine ⟨by omega, by omega, by omega, ?_⟩
    have hh := h (by omega) _ ⟨dx, a1, a2, q, rfl⟩
    unfold deskT at hh
    rw [← room_cat, ← zero_cat] at hh
    exact hh
theorem changed_n_keys {O : OT} {ks gs : List Str} {rs : List Room'} {ws go : List Nat} {t : Tr} {P : RV → List Cell → Prop} (ht : IsDesk O ks rs ws go t) (h : ∀ t', IsDesk O gs rs ws [] t' → P (.f (.bool true)) [.tr t']) : TT_Desk_changed_n O [.r 0, .d (.list [.str "keys", ksD gs])] [.tr t] P := by
  obtain ⟨dx, a1, a2, q, rfl⟩ := ht
  (first | simp_all_arith [TT_Desk_changed_n, tt_Desk_changed_n, deskT, deskF, lf1, lf4] | skip)
  exact h _ ⟨dx, a1, a2, q, rfl⟩
theorem changed_n_room {O : OT} {ks ls gs : List Str} {rs : List Room'} {ws go : List Nat} {t : Tr} {P : RV → List Cell → Prop} (ht : IsDesk O ks rs ws go t) (hr : rs.length ≤ 12) (hw : ws.length = rs.length)
    (hl : rs.length < 12) (h : rs.length < 12 → ∀ t', IsDesk O ks (rs ++ [(ls, gs)]) (ws ++ [0]) [] t' → P (.f (.bool true)) [.tr t']) : TT_Desk_changed_n O [.r 0, .d (.list [.str "room", ksD ls, ksD gs])] [.tr t] P := by
  obtain ⟨dx, a1, a2, q, rfl⟩ := ht
  (first | simp_all_arith [TT_Desk_changed_n, tt_Desk_changed_n, nw_room_keys, deskT, deskF, lm4] | skip)
  refine put_room_n_use (ls := ls) (gs := gs) ⟨dx, a1, a2, q, rfl⟩ hr hw hl (fun hl t' ht' => ?_) 
  · (first | simp_arith [onSome_some] | skip)
    exact h hl t' ht'
theorem changed_n_hand {O : OT} {t : Tr} {P : RV → List Cell → Prop} (h : P (.f (.bool false)) [.tr t]) : TT_Desk_changed_n O [.r 0, .d (.list [.str "hand"])] [.tr t] P := by
  (first | simp_arith [TT_Desk_changed_n, tt_Desk_changed_n, nw_hand_keys, nw_hand_room, nw_hand_worth, nw_hand_open, nw_hand_back, nw_hand_new] | skip)
  exact h
theorem changed_n_next {O : OT} {t : Tr} {P : RV → List Cell → Prop} (h : P (.f (.bool false)) [.tr t]) : TT_Desk_changed_n O [.r 0, .d (.list [.str "next"])] [.tr t] P := by
  (first | simp_arith [TT_Desk_changed_n, tt_Desk_changed_n, nw_next_keys, nw_next_room, nw_next_worth, nw_next_open, nw_next_back, nw_next_new] | skip)
  exact h
theorem changed_n_gone {O : OT} {t : Tr} {P : RV → List Cell → Prop} (h : P (.f (.bool false)) [.tr t]) : TT_Desk_changed_n O [.r 0, .d (.list [.str "gone"])] [.tr t] P := by
  (first | simp_arith [TT_Desk_changed_n, tt_Desk_changed_n, nw_gone_keys, nw_gone_room, nw_gone_worth, nw_gone_open, nw_gone_back, nw_gone_new] | skip)
  exact h
theorem changed_n_show {O : OT} {t : Tr} {P : RV → List Cell → Prop} (h : P (.f (.bool false)) [.tr t]) : TT_Desk_changed_n O [.r 0, .d (.list [.str "show"])] [.tr t] P := by
  (first | simp_arith [TT_Desk_changed_n, tt_Desk_changed_n, nw_show_keys, nw_show_room, nw_show_worth, nw_show_open, nw_show_back, nw_show_new] | skip)
  exact h
theorem changed_n_rooms {O : OT} {t : Tr} {P : RV → List Cell → Prop} (h : P (.f (.bool false)) [.tr t]) : TT_Desk_changed_n O [.r 0, .d (.list [.str "rooms"])] [.tr t] P := by
  (first | simp_arith [TT_Desk_changed_n, tt_Desk_changed_n, nw_rooms_keys, nw_rooms_room, nw_rooms_worth, nw_rooms_open, nw_rooms_back, nw_rooms_new] | skip)
  exact h
theorem keysRow_len {ks : List Str} (hk : Kds ks) (hl : ks.length ≤ 300) : (rowT ("keys" :: dashW ks)).length ≤ 100000 := by
  have h1 := StrLaws.join_length_le (" " : Str) ("keys" :: dashW ks)
  have h2 := dash_sum hk
  have h3 := dash_len ks
  rw [show (" " : Str).length = 1 from rfl] at h1
  simp only [List.map_cons, List.sum_cons, List.length_cons, show ("keys" : Str).length = 4 from rfl] at h1
  unfold rowT
  rw [txt_join]
  omega
theorem roomRow_len {ls ks : List Str} (hlk : Kds ls) (hk : Kds ks) (h4 : ls.length ≤ 4) (hl : ks.length ≤ 300) : (rowT ("room" :: Txt.join "+" ls :: dashW ks)).length ≤ 100000 := by
  have h1 := StrLaws.join_length_le (" " : Str) ("room" :: Txt.join "+" ls :: dashW ks)
  have h2 := dash_sum hk
  have h3 := dash_len ks
  have h5 := join_len (sep := "+") hlk rfl
  rw [show (" " : Str).length = 1 from rfl] at h1
  simp only [List.map_cons, List.sum_cons, List.length_cons, show ("room" : Str).length = 4 from rfl] at h1
  unfold rowT
  rw [txt_join]
  omega
theorem numRow_len {w : Str} {ns : List Nat} (hw : w.length ≤ 10) (h : ∀ n ∈ ns, numOk n = true) (hl : ns.length ≤ 2) : (rowT (w :: ns.map numT)).length ≤ 100000 := by
  have h1 := StrLaws.join_length_le (" " : Str) (w :: ns.map numT)
  have h2 := sum_num h
  rw [show (" " : Str).length = 1 from rfl] at h1
  simp only [List.map_cons, List.sum_cons, List.length_cons, List.length_map] at h1
  unfold rowT
  rw [txt_join]
  omega
theorem locks_blank {ls : List Str} (h : Kds ls) : 32 ∉ (Txt.join "+" ls).cps.toList := fun z => by
  rw [txt_join] at z
  rcases mem_join z with z | ⟨x, hx, z⟩
  · rw [pl_eq] at z; simp at z
  · exact kind_not not_let.1.1 (h x hx) z
theorem nextC_len (h : House) (go : List Nat) : (nextC h go).length ≤ h.2.length := by
  unfold nextC nextL
  exact Nat.le_trans (List.length_filter_le _ _) (by simp)
theorem mem_nextC {h : House} {go : List Nat} {n : Nat} (hn : n ∈ nextC h go) : n < h.2.length := by
  unfold nextC nextL at hn
  exact List.mem_range.mp (List.mem_filter.mp hn).1
def showT (h : House) : Str := Txt.join "; " (keysT h.1 :: h.2.map roomT)
theorem show_rep {h : House} (gd : GoodHouse h) : Txt.replace (houseT h) (Str.ofString "\n") (Str.ofString "; ") = showT h := by
  have e : (Str.ofString "\n") = ⟨#[10]⟩ := by decide +kernel
  have hsp : Txt.split (houseT h) (Str.ofString "\n") = keysT h.1 :: h.2.map roomT := house_split gd
  rw [e] at hsp ⊢
  rw [StrLaws.replace_one, hsp]
  exact (txt_join _ _).symm
theorem stands_hand {O : OT} {ks : List Str} {rs : List Room'} {ws go : List Nat} {t : Tr} {P : RV → List Cell → Prop} (ht : IsDesk O ks rs ws go t) (sm : Small (ks, rs)) (hg : go.length ≤ 100) (cg : CanGo (ks, rs) go) (hk : Kds (walkL (ks, rs) go)) (hl : (walkL (ks, rs) go).length ≤ 1000)
    (h : P (.f (.str (keysT (walkL (ks, rs) go)))) [.tr t]) : TT_Desk_stands O [.r 0, .d (.str "hand")] [.tr t] P := by
  have hb : ks.length ≤ 1000 := sm.b
  have hr : rs.length ≤ 1000 := sm.r
  obtain ⟨dx, a1, a2, q, rfl⟩ := ht
  (first | simp_all_arith [TT_Desk_stands, tt_Desk_stands, deskT, deskF, lm3, lf4] | skip)
  refine desk_house_use ⟨dx, a1, a2, q, rfl⟩ hb hr ?_
  (first | simp_all_arith [deskT, deskF, lf4] | skip)
  refine kb_use sm cg hg ?_
  (first | simp_arith [onSome_some] | skip)
  refine show_keys_use hk.srt (by rw [(srt_perm _).length_eq]; exact hl) ?_
  rw [keysT_srt]
  (first | simp_arith [onSome_some] | skip)
  exact h
theorem stands_next {O : OT} {ks : List Str} {rs : List Room'} {ws go : List Nat} {t : Tr} {P : RV → List Cell → Prop} (ht : IsDesk O ks rs ws go t) (sm : Small (ks, rs)) (hr12 : rs.length ≤ 12) (hg : go.length ≤ 100) (cg : CanGo (ks, rs) go)
    (h : P (.f (.str (joinedT (nextC (ks, rs) go)))) [.tr t]) : TT_Desk_stands O [.r 0, .d (.str "next")] [.tr t] P := by
  have hb : ks.length ≤ 1000 := sm.b
  have hr : rs.length ≤ 1000 := sm.r
  obtain ⟨dx, a1, a2, q, rfl⟩ := ht
  (first | simp_all_arith [TT_Desk_stands, tt_Desk_stands, deskT, deskF, lm3, lf4, nw_next_hand] | skip)
  refine desk_house_use ⟨dx, a1, a2, q, rfl⟩ hb hr ?_
  (first | simp_all_arith [deskT, deskF, lf4] | skip)
  refine nextr_use sm cg (by omega) ?_
  (first | simp_arith [onSome_some] | skip)
  have hlen : (nextC (ks, rs) go).length ≤ rs.length := nextC_len (ks, rs) go
  refine joined_use (ns := nextC (ks, rs) go) (fun n hn => numOk_of (.inl (by have : n < rs.length := mem_nextC hn; show n ≤ 100; omega))) (by show (nextC (ks, rs) go).length ≤ 100; omega) ?_
  (first | simp_arith [onSome_some] | skip)
  exact h
theorem stands_gone {O : OT} {ks : List Str} {rs : List Room'} {ws go : List Nat} {t : Tr} {P : RV → List Cell → Prop} (ht : IsDesk O ks rs ws go t) (hgo : ∀ n ∈ go, n ≤ 100) (hg : go.length ≤ 100)
    (h : P (.f (.str (joinedT go))) [.tr t]) : TT_Desk_stands O [.r 0, .d (.str "gone")] [.tr t] P := by
  obtain ⟨dx, a1, a2, q, rfl⟩ := ht
  (first | simp_all_arith [TT_Desk_stands, tt_Desk_stands, deskT, deskF, lm3, lf4, nw_gone_hand, nw_gone_next] | skip)
  refine joined_use (fun n hn => numOk_of (.inl (hgo n hn))) hg ?_
  (first | simp_arith [onSome_some] | skip)
  exact h
theorem stands_show {O : OT} {ks : List Str} {rs : List Room'} {ws go : List Nat} {t : Tr} {P : RV → List Cell → Prop} (ht : IsDesk O ks rs ws go t) (w : Wh (ks, rs))
    (h : P (.f (.str (showT (ks, rs)))) [.tr t]) : TT_Desk_stands O [.r 0, .d (.str "show")] [.tr t] P := by
  have hb : ks.length ≤ 300 := w.b
  have hr : rs.length ≤ 60 := w.r
  have hl := houseT_len w
  have hs : (Str.ofString "; ").length = 2 := rfl
  obtain ⟨dx, a1, a2, q, rfl⟩ := ht
  (first | simp_all_arith [TT_Desk_stands, tt_Desk_stands, deskT, deskF, lm3, lf4, nw_show_hand, nw_show_next, nw_show_gone, replA] | skip)
  refine desk_house_use ⟨dx, a1, a2, q, rfl⟩ (by omega) (by omega) ?_
  (first | simp_arith [onSome_some] | skip)
  refine show_house_use w ?_
  (first | simp_arith [onSome_some] | skip)
  rw [show_rep w.good, hs]
  exact ⟨by omega, h⟩
theorem stands_rooms {O : OT} {ks : List Str} {rs : List Room'} {ws go : List Nat} {t : Tr} {P : RV → List Cell → Prop} (ht : IsDesk O ks rs ws go t) (hr : rs.length ≤ 100)
    (h : P (.f (.str (numT rs.length))) [.tr t]) : TT_Desk_stands O [.r 0, .d (.str "rooms")] [.tr t] P := by
  have hn := num_reads (numOk_of (.inl hr))
  obtain ⟨dx, a1, a2, q, rfl⟩ := ht
  (first | simp_all_arith [TT_Desk_stands, tt_Desk_stands, deskT, deskF, lf2, nw_rooms_hand, nw_rooms_next, nw_rooms_gone, nw_rooms_show, kids_len, List.length_map, strA, one_1] | skip)
  exact ⟨hn.2, h⟩
theorem say_keys {E : ExT} {O : OT} {ks gs : List Str} {rs : List Room'} {ws go : List Nat} {t : Tr} {P : RV → List Cell → Prop} {PE : PyData → List Cell → Prop} (ht : IsDesk O ks rs ws go t) (hk : Kds gs) (hl : gs.length ≤ 300)
    (h : ∀ t', IsDesk O gs rs ws [] t' → P (.f (.str "ok")) [.tr t']) : TT_Desk_say E O [.r 0, .d (.str (keysRow gs))] [.tr t] P PE := by
  have ht0 := ht
  obtain ⟨dx, a1, a2, q, rfl⟩ := ht
  (first | simp_arith [TT_Desk_say, tt_Desk_say] | skip)
  refine words_keys_use hk (by omega) (keysRow_len hk hl) ?_
  (first | simp_arith [deskT, deskF, lm5] | skip)
  refine changed_keys ht0 fun t' ht' => ?_
  (first | simp_arith [onSome_some] | skip)
  exact h t' ht'
theorem say_room {E : ExT} {O : OT} {ks ls gs : List Str} {rs : List Room'} {ws go : List Nat} {t : Tr} {z : Str} {P : RV → List Cell → Prop} {PE : PyData → List Cell → Prop} (ht : IsDesk O ks rs ws go t) (hr : rs.length ≤ 12) (hw : ws.length = rs.length) (hz : RowOf (ls, gs) z) (gr : goodRoom (ls, gs)) (hgl : gs.length ≤ 300)
    (h : rs.length < 12 → ∀ t', IsDesk O ks (rs ++ [(ls, gs)]) (ws ++ [0]) [] t' → P (.f (.str "ok")) [.tr t']) (he : rs.length = 12 → PE (errD (E.c .many) (.list [])) [.tr t]) : TT_Desk_say E O [.r 0, .d (.str z)] [.tr t] P PE := by
  have ht0 := ht
  obtain ⟨dx, a1, a2, q, rfl⟩ := ht
  obtain ⟨ms, hp, rfl⟩ := hz
  obtain ⟨g1, g2, g3, g4, g5⟩ := gr
  have hp : ms.Perm ls := hp
  have g3 : 1 ≤ ls.length := g3
  have g4 : ls.length ≤ 4 := g4
  have g5 : srt ls = ls := g5
  have hm : Kds ms := fun k hk => g1 k (hp.mem_iff.mp hk)
  have hml := hp.length_eq
  have e0 : srt ms = ls := (srt_perm_eq hp).trans g5
  have hj := join_len (sep := "+") hm rfl
  (first | simp_arith [TT_Desk_say, tt_Desk_say] | skip)
  refine words_room_use hm (fun z => by rw [z] at hml; have : (0 : Nat) = ls.length := hml; omega) (by omega) g2 (by omega) (by omega) (roomRow_len hm g2 (by omega) hgl) (locks_blank hm) ?_
  rw [e0]
  (first | simp_arith [deskT, deskF, lm5] | skip)
  refine changed_room (ls := ls) (gs := gs) ht0 hr hw (fun hl t' ht' => ?_) (fun hl => ?_)
  · (first | simp_arith [onSome_some] | skip)
    exact h hl t' ht'
  · (first | simp_arith [excP] | skip)
    exact he hl
theorem say_worth {E : ExT} {O : OT} {ks : List Str} {rs : List Room'} {ws go : List Nat} {i v : Nat} {t : Tr} {P : RV → List Cell → Prop} {PE : PyData → List Cell → Prop} (ht : IsDesk O ks rs ws go t) (hw : ws.length = rs.length) (hni : numOk i = true) (hnv : numOk v = true)
    (h : i < rs.length → ∀ t', IsDesk O ks rs (ws.set i v) go t' → P (.f (.str "ok")) [.tr t']) (he : ¬ i < rs.length → PE (errD (E.c .step) (.list [.none])) [.tr t]) : TT_Desk_say E O [.r 0, .d (.str (rowT ["worth", numT i, numT v]))] [.tr t] P PE := by
  have ht0 := ht
  obtain ⟨dx, a1, a2, q, rfl⟩ := ht
  have h1 := num_len hni
  have h2 := num_len hnv
  (first | simp_arith [TT_Desk_say, tt_Desk_say] | skip)
  refine words_num_use (w := "worth") (ns := [i, v]) (show numTab.lookup ("worth" : Str) = some (2 : Int) by decide +kernel) (by decide +kernel) (by decide) (by decide +kernel) (by decide +kernel) (fun n hn => by
    rcases List.mem_cons.mp hn with rfl | hn
    · exact hni
    · rw [List.mem_singleton] at hn; subst hn; exact hnv) (Nat.le_refl 2) (numRow_len (by decide) (fun n hn => by
    rcases List.mem_cons.mp hn with rfl | hn
    · exact hni
    · rw [List.mem_singleton] at hn; subst hn; exact hnv) (Nat.le_refl 2)) ?_
  (first | simp_arith [deskT, deskF, lm5] | skip)
  refine changed_worth ht0 hw (fun hl t' ht' => ?_) (fun hl => ?_)
  · (first | simp_arith [onSome_some] | skip)
    exact h hl t' ht'
  · (first | simp_arith [excP] | skip)
    exact he hl
theorem say_new {E : ExT} {O : OT} {ks : List Str} {rs : List Room'} {ws go : List Nat} {t : Tr} {P : RV → List Cell → Prop} {PE : PyData → List Cell → Prop} (ht : IsDesk O ks rs ws go t)
    (h : ∀ t', IsDesk O [] [] [] [] t' → P (.f (.str "ok")) [.tr t']) : TT_Desk_say E O [.r 0, .d (.str "new")] [.tr t] P PE := by
  have ht0 := ht
  obtain ⟨dx, a1, a2, q, rfl⟩ := ht
  (first | simp_arith [TT_Desk_say, tt_Desk_say] | skip)
  refine words_num_use (w := "new") (ns := []) (by decide +kernel) (by decide +kernel) (by decide) (by decide +kernel) (by decide +kernel) (fun n hn => nomatch hn) (by decide) (by decide +kernel) ?_
  (first | simp_arith [deskT, deskF, lm5] | skip)
  refine changed_new ht0 fun t' ht' => ?_
  (first | simp_arith [onSome_some] | skip)
  exact h t' ht'
theorem say_n_keys {O : OT} {ks gs : List Str} {rs : List Room'} {ws go : List Nat} {t : Tr} {P : RV → List Cell → Prop} (ht : IsDesk O ks rs ws go t) (hk : Kds gs) (hl : gs.length ≤ 300)
    (h : ∀ t', IsDesk O gs rs ws [] t' → P (.f (.str "ok")) [.tr t']) : TT_Desk_say_n O [.r 0, .d (.str (keysRow gs))] [.tr t] P := by
  have ht0 := ht
  obtain ⟨dx, a1, a2, q, rfl⟩ := ht
  (first | simp_arith [TT_Desk_say_n, tt_Desk_say_n] | skip)
  refine words_keys_use hk (by omega) (keysRow_len hk hl) ?_
  (first | simp_arith [deskT, deskF, lm5] | skip)
  refine changed_n_keys ht0 fun t' ht' => ?_
  (first | simp_arith [onSome_some] | skip)
  exact h t' ht'
theorem say_n_room {O : OT} {ks ls gs : List Str} {rs : List Room'} {ws go : List Nat} {t : Tr} {z : Str} {P : RV → List Cell → Prop} (ht : IsDesk O ks rs ws go t) (hr : rs.length ≤ 12) (hw : ws.length = rs.length) (hz : RowOf (ls, gs) z) (gr : goodRoom (ls, gs)) (hgl : gs.length ≤ 300)
    (hl : rs.length < 12) (h : rs.length < 12 → ∀ t', IsDesk O ks (rs ++ [(ls, gs)]) (ws ++ [0]) [] t' → P (.f (.str "ok")) [.tr t']) : TT_Desk_say_n O [.r 0, .d (.str z)] [.tr t] P := by
  have ht0 := ht
  obtain ⟨dx, a1, a2, q, rfl⟩ := ht
  obtain ⟨ms, hp, rfl⟩ := hz
  obtain ⟨g1, g2, g3, g4, g5⟩ := gr
  have hp : ms.Perm ls := hp
  have g3 : 1 ≤ ls.length := g3
  have g4 : ls.length ≤ 4 := g4
  have g5 : srt ls = ls := g5
  have hm : Kds ms := fun k hk => g1 k (hp.mem_iff.mp hk)
  have hml := hp.length_eq
  have e0 : srt ms = ls := (srt_perm_eq hp).trans g5
  have hj := join_len (sep := "+") hm rfl
  (first | simp_arith [TT_Desk_say_n, tt_Desk_say_n] | skip)
  refine words_room_use hm (fun z => by rw [z] at hml; have : (0 : Nat) = ls.length := hml; omega) (by omega) g2 (by omega) (by omega) (roomRow_len hm g2 (by omega) hgl) (locks_blank hm) ?_
  rw [e0]
  (first | simp_arith [deskT, deskF, lm5] | skip)
  refine changed_n_room (ls := ls) (gs := gs) ht0 hr hw hl (fun hl t' ht' => ?_) 
  · (first | simp_arith [onSome_some] | skip)
    exact h hl t' ht'
theorem say_n_hand {O : OT} {ks : List Str} {rs : List Room'} {ws go : List Nat} {t : Tr} {z : Str} {P : RV → List Cell → Prop} (ht : IsDesk O ks rs ws go t) (hs : ∀ P : RV → List Cell → Prop, P (.f (.str z)) [.tr t] → TT_Desk_stands O [.r 0, .d (.str "hand")] [.tr t] P)
    (h : P (.f (.str z)) [.tr t]) : TT_Desk_say_n O [.r 0, .d (.str "hand")] [.tr t] P := by
  obtain ⟨dx, a1, a2, q, rfl⟩ := ht
  (first | simp_arith [TT_Desk_say_n, tt_Desk_say_n] | skip)
  refine words_num_use (w := "hand") (ns := []) (by decide +kernel) (by decide +kernel) (by decide) (by decide +kernel) (by decide +kernel) (fun n hn => nomatch hn) (by decide) (by decide +kernel) ?_
  (first | simp_arith [deskT, deskF, lm5] | skip)
  refine changed_n_hand ?_
  (first | simp_arith [deskT, deskF, lm6] | skip)
  refine hs _ ?_
  (first | simp_arith [noneV_str] | skip)
  exact h
theorem say_n_next {O : OT} {ks : List Str} {rs : List Room'} {ws go : List Nat} {t : Tr} {z : Str} {P : RV → List Cell → Prop} (ht : IsDesk O ks rs ws go t) (hs : ∀ P : RV → List Cell → Prop, P (.f (.str z)) [.tr t] → TT_Desk_stands O [.r 0, .d (.str "next")] [.tr t] P)
    (h : P (.f (.str z)) [.tr t]) : TT_Desk_say_n O [.r 0, .d (.str "next")] [.tr t] P := by
  obtain ⟨dx, a1, a2, q, rfl⟩ := ht
  (first | simp_arith [TT_Desk_say_n, tt_Desk_say_n] | skip)
  refine words_num_use (w := "next") (ns := []) (by decide +kernel) (by decide +kernel) (by decide) (by decide +kernel) (by decide +kernel) (fun n hn => nomatch hn) (by decide) (by decide +kernel) ?_
  (first | simp_arith [deskT, deskF, lm5] | skip)
  refine changed_n_next ?_
  (first | simp_arith [deskT, deskF, lm6] | skip)
  refine hs _ ?_
  (first | simp_arith [noneV_str] | skip)
  exact h
theorem say_n_gone {O : OT} {ks : List Str} {rs : List Room'} {ws go : List Nat} {t : Tr} {z : Str} {P : RV → List Cell → Prop} (ht : IsDesk O ks rs ws go t) (hs : ∀ P : RV → List Cell → Prop, P (.f (.str z)) [.tr t] → TT_Desk_stands O [.r 0, .d (.str "gone")] [.tr t] P)
    (h : P (.f (.str z)) [.tr t]) : TT_Desk_say_n O [.r 0, .d (.str "gone")] [.tr t] P := by
  obtain ⟨dx, a1, a2, q, rfl⟩ := ht
  (first | simp_arith [TT_Desk_say_n, tt_Desk_say_n] | skip)
  refine words_num_use (w := "gone") (ns := []) (by decide +kernel) (by decide +kernel) (by decide) (by decide +kernel) (by decide +kernel) (fun n hn => nomatch hn) (by decide) (by decide +kernel) ?_
  (first | simp_arith [deskT, deskF, lm5] | skip)
  refine changed_n_gone ?_
  (first | simp_arith [deskT, deskF, lm6] | skip)
  refine hs _ ?_
  (first | simp_arith [noneV_str] | skip)
  exact h
theorem say_n_show {O : OT} {ks : List Str} {rs : List Room'} {ws go : List Nat} {t : Tr} {z : Str} {P : RV → List Cell → Prop} (ht : IsDesk O ks rs ws go t) (hs : ∀ P : RV → List Cell → Prop, P (.f (.str z)) [.tr t] → TT_Desk_stands O [.r 0, .d (.str "show")] [.tr t] P)
    (h : P (.f (.str z)) [.tr t]) : TT_Desk_say_n O [.r 0, .d (.str "show")] [.tr t] P := by
  obtain ⟨dx, a1, a2, q, rfl⟩ := ht
  (first | simp_arith [TT_Desk_say_n, tt_Desk_say_n] | skip)
  refine words_num_use (w := "show") (ns := []) (by decide +kernel) (by decide +kernel) (by decide) (by decide +kernel) (by decide +kernel) (fun n hn => nomatch hn) (by decide) (by decide +kernel) ?_
  (first | simp_arith [deskT, deskF, lm5] | skip)
  refine changed_n_show ?_
  (first | simp_arith [deskT, deskF, lm6] | skip)
  refine hs _ ?_
  (first | simp_arith [noneV_str] | skip)
  exact h
theorem say_n_rooms {O : OT} {ks : List Str} {rs : List Room'} {ws go : List Nat} {t : Tr} {z : Str} {P : RV → List Cell → Prop} (ht : IsDesk O ks rs ws go t) (hs : ∀ P : RV → List Cell → Prop, P (.f (.str z)) [.tr t] → TT_Desk_stands O [.r 0, .d (.str "rooms")] [.tr t] P)
    (h : P (.f (.str z)) [.tr t]) : TT_Desk_say_n O [.r 0, .d (.str "rooms")] [.tr t] P := by
  obtain ⟨dx, a1, a2, q, rfl⟩ := ht
  (first | simp_arith [TT_Desk_say_n, tt_Desk_say_n] | skip)
  refine words_num_use (w := "rooms") (ns := []) (by decide +kernel) (by decide +kernel) (by decide) (by decide +kernel) (by decide +kernel) (fun n hn => nomatch hn) (by decide) (by decide +kernel) ?_
  (first | simp_arith [deskT, deskF, lm5] | skip)
  refine changed_n_rooms ?_
  (first | simp_arith [deskT, deskF, lm6] | skip)
  refine hs _ ?_
  (first | simp_arith [noneV_str] | skip)
  exact h
/-! part p_said53 -/
/-! what is said, and what is refused -/
def saidW (z : Str) : Prop := z.length ≤ 1000000 ∧ inD (.str (cutS z none (some 2))) [.str "No", .str "To"] = false
theorem saidW_ok : saidW "ok" := ⟨by decide, by decide +kernel⟩
theorem said_ok {E : ExT} {O : OT} {row z : Str} {ks : List Str} {rs : List Room'} {ws go : List Nat} {t : Tr} {I : Tr → Prop} {P : RV → List Cell → Prop} (ht : IsDesk O ks rs ws go t) (hz : saidW z)
    (h : ∀ (P' : RV → List Cell → Prop) (PE' : PyData → List Cell → Prop), (∀ t', I t' → P' (.f (.str z)) [.tr t']) → TT_Desk_say E O [.r 0, .d (.str row)] [.tr t] P' PE') (q : ∀ t', I t' → P (.f (.str z)) [.tr t']) : TT_law_said E O [.r 0, .d (.str row)] [.tr t] P := by
  have szl : 2000000 < sizeLine := by decide
  have es : kitB "str" "str" = some true := by decide +kernel
  have h1 := hz.1
  have h2 : inD (.str (cutS z none (some 2))) [PyData.str (Str.ofString "No"), PyData.str (Str.ofString "To")] = false := hz.2
  obtain ⟨dx, a1, a2, q0, rfl⟩ := ht
  (first | simp_arith [TT_law_said, tt_law_said, deskT, deskF, lm7] | skip)
  refine h _ _ fun t' ht' => ?_
  (first | simp_arith [es, h2] | skip)
  exact ⟨by omega, by omega, by omega, q t' ht'⟩
theorem said_many {E : ExT} {O : OT} {row : Str} {ks : List Str} {rs : List Room'} {ws go : List Nat} {t : Tr} {P : RV → List Cell → Prop} (ht : IsDesk O ks rs ws go t)
    (h : ∀ (P' : RV → List Cell → Prop) (PE' : PyData → List Cell → Prop), PE' (errD (E.c .many) (.list [])) [.tr t] → TT_Desk_say E O [.r 0, .d (.str row)] [.tr t] P' PE') (q : P (.f (.str "TooMany")) [.tr t]) : TT_law_said E O [.r 0, .d (.str row)] [.tr t] P := by
  have szl : 2000000 < sizeLine := by decide
  have m3 : XN.many ∈ [XN.many, XN.step] := by decide
  obtain ⟨dx, a1, a2, q0, rfl⟩ := ht
  (first | simp_arith [TT_law_said, tt_law_said, deskT, deskF, lm7] | skip)
  refine h _ _ ?_
  (first | simp_arith [excP] | skip)
  refine ⟨m3, by decide +kernel, ?_⟩
  (first | simp_arith [m3] | skip)
  refine ⟨by omega, by omega, by omega, ?_⟩
  rw [if_neg (by decide)]
  refine ⟨by omega, by decide, by decide, ?_⟩
  rw [show List.findIdx? (fun d => eqP d (PyData.bool true)) [PyData.bool false, PyData.bool false, PyData.bool false, PyData.bool false, PyData.bool true] = some 4 by decide, onSome_some, atI_natE]
  (first | simp_arith [onSome_some] | skip)
  exact q
theorem said_step {E : ExT} {O : OT} {row : Str} {ks : List Str} {rs : List Room'} {ws go : List Nat} {t : Tr} {P : RV → List Cell → Prop} (ht : IsDesk O ks rs ws go t)
    (h : ∀ (P' : RV → List Cell → Prop) (PE' : PyData → List Cell → Prop), PE' (errD (E.c .step) (.list [.none])) [.tr t] → TT_Desk_say E O [.r 0, .d (.str row)] [.tr t] P' PE') (q : P (.f (.str "NoStep")) [.tr t]) : TT_law_said E O [.r 0, .d (.str row)] [.tr t] P := by
  have szl : 2000000 < sizeLine := by decide
  have m3 : XN.step ∈ [XN.many, XN.step] := by decide
  obtain ⟨dx, a1, a2, q0, rfl⟩ := ht
  (first | simp_arith [TT_law_said, tt_law_said, deskT, deskF, lm7] | skip)
  refine h _ _ ?_
  (first | simp_arith [excP] | skip)
  refine ⟨m3, by decide +kernel, ?_⟩
  (first | simp_arith [m3] | skip)
  refine ⟨by omega, by omega, by omega, ?_⟩
  rw [if_neg (by decide)]
  refine ⟨by omega, by decide, by decide, ?_⟩
  rw [show List.findIdx? (fun d => eqP d (PyData.bool true)) [PyData.bool false, PyData.bool true, PyData.bool false, PyData.bool false, PyData.bool false] = some 1 by decide, onSome_some, atI_natE]
  (first | simp_arith [onSome_some] | skip)
  exact q
/-! numbers as words -/
theorem lwords_use {ns : List Nat} {P : RV → List Cell → Prop} (h : ∀ n ∈ ns, numOk n = true) (hl : ns.length ≤ 100) (q : P (.f (.str (joinedT ns))) []) : TT_law_words [.d (natsD ns)] [] P := by
  have szl : 100000 < sizeLine := by decide
  have hs := sum_num h
  have h1 : (Str.ofString " ").length = 1 := rfl
  (first | simp_arith [TT_law_words, tt_law_words, natsD] | skip)
  refine lcW_map trivial (fun k : Nat => PyData.int (k : Int)) (fun _ => true) (fun k => PyData.str (numT k)) (fun k hk R1 R2 g1 g2 => ?_) ?_
  · (first | simp_arith [strA, one_1] | skip)
    exact ⟨(num_reads (h k hk)).2, g1 rfl⟩
  rw [List.filter_eq_self.mpr fun _ _ => rfl, List.nil_append]
  have em : (ns.map fun k => PyData.str (numT k)) = (ns.map numT).map PyData.str := by rw [List.map_map]; rfl
  rw [em]
  cases ns with
  | nil =>
    have hd : (List.replicate (Int.toNat 1) [PyData.str (Str.ofString "none")]).flatten = [Str.ofString "none"].map PyData.str := rfl
    have hj : Txt.join (Str.ofString " ") [Str.ofString "none"] = joinedT [] := by decide +kernel
    (first | simp_arith [List.map_nil, List.isEmpty_nil, repL, hd, hj] | skip)
    rw [show strs? [PyData.str (Str.ofString "none")] = some [Str.ofString "none"] from rfl, onSome_some, hj]
    exact ⟨by omega, ⟨by decide, by decide, by decide⟩, by omega, by decide, q⟩
  | cons n ns =>
    have h0 : repL 0 [PyData.str (Str.ofString "none")] = [] := rfl
    have ej : joinedT (n :: ns) = Txt.join (Str.ofString " ") ((n :: ns).map numT) := if_neg (by simp)
    rw [ej] at q
    (first | simp_arith [List.map_cons, List.isEmpty_cons, if_false, h0, List.append_nil] | skip)
    rw [show strs? (PyData.str (numT n) :: List.map PyData.str (List.map numT ns)) = some ((n :: ns).map numT) from strs?_map ((n :: ns).map numT), onSome_some, h1, List.length_map]
    simp only [List.length_cons] at hl hs ⊢
    exact ⟨by omega, ⟨by decide, by decide, by decide⟩, by omega, by omega, q⟩
/-! part p_kept53 -/
/-! the law's look at the desk, and its rows -/
structure DkOk (ks : List Str) (rs : List Room') : Prop where
  k : Kds ks
  kl : ks.length ≤ 40
  r : ∀ r ∈ rs, goodRoom r
  rk : ∀ r ∈ rs, r.2.length ≤ 8
  rl : rs.length ≤ 12
theorem keysIn_le {m : Nat} : ∀ {rs : List Room'}, (∀ r ∈ rs, r.2.length ≤ m) → keysIn rs ≤ m * rs.length
  | [], _ => Nat.le_refl _
  | r :: rs, h => by
    have h1 := h r (List.mem_cons_self ..)
    have h2 := keysIn_le (rs := rs) fun x hx => h x (List.mem_cons_of_mem _ hx)
    have e : keysIn (r :: rs) = r.2.length + keysIn rs := by simp [keysIn]
    rw [e, List.length_cons, Nat.mul_add]
    omega
theorem DkOk.wh {ks : List Str} {rs : List Room'} (h : DkOk ks rs) : Wh (ks, rs) :=
  ⟨⟨h.k, h.r, by have := h.kl; show ks.length ≤ _; omega, by have := h.rl; show rs.length ≤ _; omega, fun r hr => by have := h.rk r hr; omega⟩, by have := h.kl; show ks.length ≤ _; omega, by have := h.rl; show rs.length ≤ _; omega, fun r hr => by have := h.rk r hr; omega⟩
theorem DkOk.sm {ks : List Str} {rs : List Room'} (h : DkOk ks rs) : Small (ks, rs) := by
  have h1 := keysIn_le h.rk
  have h2 := h.rl
  have h3 := h.kl
  exact ⟨h.wh.good, by show ks.length ≤ _; omega, by show rs.length ≤ _; omega, by show keysIn rs ≤ _; omega⟩
theorem DkOk.nil : DkOk [] [] := ⟨(fun _ h => by cases h), by decide, (fun _ h => by cases h), (fun _ h => by cases h), by decide⟩
def StA (ks : List Str) (rs : List Room') (x : AVal) (cs : List Cell) : Prop := (x = .d (.list [ksD ks, .list (rs.map roomD)]) ∧ cs = []) ∨ (x = .r 1 ∧ cs = [.lst [ksD ks, .list (rs.map roomD)]])
theorem as_kept_use {O : OT} {ks : List Str} {rs : List Room'} {ws : List Nat} {t : Tr} {x : AVal} {cs : List Cell} {P : RV → List Cell → Prop} (ht : IsDesk O ks rs ws [] t) (kp : DkOk ks rs) (hx : StA ks rs x cs) (q : P (.f (.bool true)) (.tr t :: cs)) : TT_law_as_kept O [.r 0, x] (.tr t :: cs) P := by
  have szl : 200000 < sizeLine := by decide
  have w := kp.wh
  have sm := kp.sm
  have hr12 := kp.rl
  have hkl := kp.kl
  have ht0 := ht
  have hsum := sum_rooms w (rs := rs) fun _ h => h
  have h3 : (keysT ks).length ≤ _ := keysT_len w.good.keys
  have hs : (Str.ofString "; ").length = 2 := rfl
  have ec : PyData.str (keysT ks) :: (rs.map roomT).map PyData.str = (keysT ks :: rs.map roomT).map PyData.str := rfl
  have ej : Txt.join (Str.ofString "; ") (keysT ks :: rs.map roomT) = showT (ks, rs) := rfl
  obtain ⟨dx, a1, a2, q0, rfl⟩ := ht
  have eb : ∀ z : Str, decide (z = z) = true := fun z => decide_eq_true rfl
  have hn := num_reads (numOk_of (n := rs.length) (.inl (by omega)))
  have hnx : ∀ n ∈ nextC (ks, rs) [], numOk n = true := fun n hn => numOk_of (.inl (by have : n < rs.length := mem_nextC hn; omega))
  have hnl : (nextC (ks, rs) []).length ≤ rs.length := nextC_len _ _
  have hw0 : walkL (ks, rs) [] = ks := rfl
  have cg := CanGo.nil (ks, rs)
  rcases hx with ⟨rfl, rfl⟩ | ⟨rfl, rfl⟩
  all_goals
    (first | simp_arith [TT_law_as_kept, tt_law_as_kept, deskT, deskF, lm7] | skip)
    refine ⟨by omega, ?_⟩
    refine say_n_show ht0 (fun P h => stands_show ht0 w h) ?_
    (first | simp_arith [onSome_some] | skip)
    refine lines_use w ?_
    (first | simp_arith [onSome_some] | skip)
    rw [ec, strs?_map]
    (first | simp_arith [ej, eb, hs, List.map_cons, List.length_cons, List.length_map, List.sum_cons, deskT, deskF, lm7] | skip)
    refine ⟨by omega, ?_⟩
    refine say_n_rooms ht0 (fun P h => stands_rooms ht0 (by omega) h) ?_
    (first | simp_arith [strA, one_1, eb, List.length_map] | skip)
    have e2 : decide (numT rs.length = Str.ofString (toString (rs.length : Int))) = true := decide_eq_true rfl
    (first | simp_arith [e2, deskT, deskF, lm7] | skip)
    refine ⟨hn.2, ?_⟩
    refine say_n_gone ht0 (fun P h => stands_gone ht0 (fun _ h => by cases h) (by decide) h) ?_
    have e3 : decide (joinedT [] = Str.ofString "none") = true := decide_eq_true rfl
    (first | simp_arith [e3, deskT, deskF, lm7] | skip)
    refine say_n_hand ht0 (fun P h => stands_hand ht0 sm (by decide) cg (by rw [hw0]; exact kp.k) (by rw [hw0]; omega) h) ?_
    rw [hw0]
    (first | simp_arith [onSome_some] | skip)
    refine keys_written_use kp.k (by omega) ?_
    (first | simp_arith [eb, deskT, deskF, lm7] | skip)
    refine say_n_next ht0 (fun P h => stands_next ht0 sm hr12 (by decide) cg h) ?_
    (first | simp_arith [onSome_some] | skip)
    refine lnext_use sm cg (by decide) ?_
    (first | simp_arith [onSome_some] | skip)
    refine lwords_use hnx (by omega) ?_
    (first | simp_arith [eb] | skip)
    exact q
/-! part p_rowl53 -/
/-! a row that the law draws -/
inductive RowS : List Str → List Room' → Str → Str → List Str → List Room' → Prop where
  | keys {ks gs : List Str} {rs : List Room'} (hk : Kds gs) (hl : gs.length ≤ 40) : RowS ks rs (keysRow gs) "ok" gs rs
  | worth {ks : List Str} {rs : List Room'} {i v : Nat} (hi : numOk i = true) (hv : numOk v = true) (h : i < rs.length) : RowS ks rs (rowT ["worth", numT i, numT v]) "ok" ks rs
  | worthN {ks : List Str} {rs : List Room'} {i v : Nat} (hi : numOk i = true) (hv : numOk v = true) (h : ¬ i < rs.length) : RowS ks rs (rowT ["worth", numT i, numT v]) "NoStep" ks rs
  | new {ks : List Str} {rs : List Room'} : RowS ks rs "new" "ok" [] []
  | room {ks ls gs : List Str} {rs : List Room'} {z : Str} (hz : RowOf (ls, gs) z) (gr : goodRoom (ls, gs)) (hl : gs.length ≤ 8) (h : rs.length ≠ 12) : RowS ks rs z "ok" ks (rs ++ [(ls, gs)])
  | many {ks ls gs : List Str} {rs : List Room'} {z : Str} (hz : RowOf (ls, gs) z) (gr : goodRoom (ls, gs)) (hl : gs.length ≤ 8) (h : rs.length = 12) : RowS ks rs z "TooMany" ks rs
theorem pickN (L : List Nat) (r : Nat) (hr : r < L.length) : ∃ n ∈ L, L2.atI (L.map fun n : Nat => PyData.int (n : Int)) (r : Int) = some (.int (n : Int)) := by
  refine ⟨L[r], List.getElem_mem hr, ?_⟩
  rw [atI_natE, List.getElem?_map, List.getElem?_eq_getElem hr]
  rfl
theorem worth_row (i v : Nat) : Str.ofString "worth " ++ numT i ++ Str.ofString " " ++ numT v = rowT ["worth", numT i, numT v] := by
  unfold rowT
  rw [txt_join, join_cons, join_cons]
  have : Str.ofString "worth " = ("worth" : Str) ++ (" " : Str) := by decide +kernel
  rw [this]
  refine str_extL ?_
  simp only [str_app, List.append_assoc]
  rfl
theorem law_row_use {ks : List Str} {rs : List Room'} {ns : List Int} {P : RV → List Cell → Prop} (kp : DkOk ks rs)
    (q : ∀ (row due : Str) (ks' : List Str) (rs' : List Room') (ns' : List Int), RowS ks rs row due ks' rs' → P (.f (.tuple [.str row, .str due])) [.lst (ns'.map .int), .lst [ksD ks', .list (rs'.map roomD)]]) :
    TT_law_row [.r 0, .r 1] [.lst (ns.map .int), .lst [ksD ks, .list (rs.map roomD)]] P := by
  have szl : 200000 < sizeLine := by decide
  have hr12 := kp.rl
  (first | simp_arith! [TT_law_row, tt_law_row] | skip)
  refine take_use (many := 8) (by decide) fun way ns1 hw => ?_
  (first | simp_arith! [onSome_some] | skip)
  refine ⟨by omega, ?_⟩
  refine take_use (many := 3) (by decide) fun r ns2 hr => ?_
  obtain ⟨few, hfm, ef⟩ := pickN [2, 3, 8] r (by show r < 3; omega)
  have hf0 : 0 < few ∧ few ≤ 8 := by
    simp only [List.mem_cons, List.not_mem_nil, or_false] at hfm; omega
  have ef : L2.atI [PyData.int 2, PyData.int 3, PyData.int 8] (r : Int) = some (.int (few : Int)) := ef
  (first | simp_arith! [ef] | skip)
  have x0 : L2.ixN (1 + 1) 0 = some 0 := by decide
  have x1 : L2.ixN (1 + 1) 1 = some 1 := by decide
  refine cutA (fun s => s = ⟨[some (.r 0), some (.r 1), some (.d (.int (way : Int))), some (.d (.int (few : Int))), none, none, none, none, none], [.lst (ns2.map .int), .lst [ksD ks, .list (rs.map roomD)]]⟩) (fun M hM => ?_) ?_
  · by_cases h0 : way = 0
    · have d0 : decide ((way : Int) = 0) = true := decide_eq_true (by omega)
      (first | simp_arith [d0] | skip)
      refine ⟨by omega, ?_⟩
      refine take_use (many := 4) (by decide) fun r2 ns3 hr2 => ?_
      obtain ⟨mo, hmm, em⟩ := pickN [5, 5, 13, 41] r2 (by show r2 < 4; omega)
      have hm0 : 0 < mo ∧ mo ≤ 41 := by
        simp only [List.mem_cons, List.not_mem_nil, or_false] at hmm; omega
      have em : L2.atI [PyData.int 5, PyData.int 5, PyData.int 13, PyData.int 41] (r2 : Int) = some (.int (mo : Int)) := em
      (first | simp_arith [em] | skip)
      refine keysOf_use hf0.1 hf0.2 hm0.1 (by omega) fun gs ns4 hg hgl => ?_
      (first | simp_arith [x0] | skip)
      refine ⟨by omega, ?_⟩
      have wg : Wh (gs, []) := ⟨⟨hg, (fun _ h => by cases h), by show gs.length ≤ _; omega, Nat.zero_le _, (fun _ h => by cases h)⟩, by show gs.length ≤ _; omega, Nat.zero_le _, (fun _ h => by cases h)⟩
      refine house_rows_use wg fun zs ns5 hz => ?_
      (first | simp_arith [onSome_some] | skip)
      exact ⟨by omega, q _ _ _ _ ns5 (.keys hg (by omega))⟩
    · have d0 : decide ((way : Int) = 0) = false := decide_eq_false (by omega)
      (first | simp_arith [d0] | skip)
      exact hM _ rfl
  rintro s' rfl
  (first | simp_arith! [onSome_some] | skip)
  refine cutA (fun s => s = ⟨[some (.r 0), some (.r 1), some (.d (.int (way : Int))), some (.d (.int (few : Int))), none, none, none, none, none], [.lst (ns2.map .int), .lst [ksD ks, .list (rs.map roomD)]]⟩) (fun M hM => ?_) ?_
  · by_cases h1 : way = 1
    · have d1 : decide ((way : Int) = 1) = true := decide_eq_true (by omega)
      (first | simp_arith [d1] | skip)
      refine take_use (many := 14) (by decide) fun room ns3 hro => ?_
      (first | simp_arith [onSome_some] | skip)
      refine take_use (many := 100) (by decide) fun num ns4 hnu => ?_
      (first | simp_arith [onSome_some] | skip)
      refine ⟨by omega, ?_⟩
      refine take_use (many := 3) (by decide) fun r2 ns5 hr2 => ?_
      obtain ⟨v, hvm, ev⟩ := pickN [num, 999999999, 0] r2 (by show r2 < 3; omega)
      have hv : numOk v = true := numOk_of (by
        simp only [List.mem_cons, List.not_mem_nil, or_false] at hvm; omega)
      have hi : numOk room = true := numOk_of (.inl (by omega))
      have ev : L2.atI [PyData.int (num : Int), PyData.int 999999999, PyData.int 0] (r2 : Int) = some (.int (v : Int)) := ev
      have hli := num_len hi
      have hlv := num_len hv
      have lw : (Str.ofString "worth ").length = 6 := rfl
      have l1 : (Str.ofString " ").length = 1 := rfl
      have en : ∀ n : Nat, Str.ofString (toString (n : Int)) = numT n := fun _ => rfl
      (first | simp_arith [ev, strA, one_1, en] | skip)
      refine ⟨(num_reads hi).2, by omega, by rw [Str.length_append]; omega, (num_reads hv).2, by rw [Str.length_append, Str.length_append]; omega, by omega, ?_⟩
      rw [worth_row]
      by_cases hlt : room < rs.length
      · have dl : decide ((room : Int) < (rs.length : Int)) = true := decide_eq_true (by omega)
        have a1 : L2.atI [PyData.str (Str.ofString "NoStep"), PyData.str (Str.ofString "ok")] 1 = some (.str "ok") := rfl
        (first | simp_arith [dl, if_true, a1] | skip)
        exact ⟨by omega, q _ _ _ _ ns5 (.worth hi hv hlt)⟩
      · have dl : decide ((room : Int) < (rs.length : Int)) = false := decide_eq_false (by omega)
        have a1 : L2.atI [PyData.str (Str.ofString "NoStep"), PyData.str (Str.ofString "ok")] 0 = some (.str "NoStep") := rfl
        (first | simp_arith [dl, a1] | skip)
        exact ⟨by omega, q _ _ _ _ ns5 (.worthN hi hv hlt)⟩
    · have d1 : decide ((way : Int) = 1) = false := decide_eq_false (by omega)
      (first | simp_arith [d1] | skip)
      exact hM _ rfl
  rintro s' rfl
  (first | simp_arith! [onSome_some] | skip)
  refine cutA (fun s => ∃ ms : List Int, s = ⟨[some (.r 0), some (.r 1), some (.d (.int (way : Int))), some (.d (.int (few : Int))), none, none, none, none, none], [.lst (ms.map .int), .lst [ksD ks, .list (rs.map roomD)]]⟩) (fun M hM => ?_) ?_
  · by_cases h2 : way = 2
    · have d2 : decide ((way : Int) = 2) = true := decide_eq_true (by omega)
      (first | simp_arith [d2] | skip)
      refine take_use (many := 3) (by decide) fun r2 ns3 hr2 => ?_
      by_cases hz : r2 = 0
      · have dz : decide ((r2 : Int) = 0) = true := decide_eq_true (by omega)
        (first | simp_arith [dz, x0, x1] | skip)
        exact ⟨by omega, q _ _ _ _ ns3 .new⟩
      · have dz : decide ((r2 : Int) = 0) = false := decide_eq_false (by omega)
        (first | simp_arith [dz] | skip)
        exact hM _ ⟨ns3, rfl⟩
    · have d2 : decide ((way : Int) = 2) = false := decide_eq_false (by omega)
      (first | simp_arith [d2] | skip)
      exact hM _ ⟨ns2, rfl⟩
  rintro s' ⟨ms, rfl⟩
  (first | simp_arith [onSome_some] | skip)
  refine ⟨by omega, ?_⟩
  refine take_use (many := 4) (by decide) fun r2 ns3 hr2 => ?_
  obtain ⟨mo, hmm, em⟩ := pickN [4, 4, 4, 9] r2 (by show r2 < 4; omega)
  have hm0 : 0 < mo ∧ mo ≤ 9 := by
    simp only [List.mem_cons, List.not_mem_nil, or_false] at hmm; omega
  have em : L2.atI [PyData.int 4, PyData.int 4, PyData.int 4, PyData.int 9] (r2 : Int) = some (.int (mo : Int)) := em
  (first | simp_arith [em] | skip)
  refine keysOf_use hf0.1 hf0.2 hm0.1 (by omega) fun gs ns4 hg hgl => ?_
  (first | simp_arith [onSome_some] | skip)
  refine take_use (many := 4) (by decide) fun u ns5 hu => ?_
  (first | simp_arith [onSome_some] | skip)
  repeat (with_reducible refine And.intro (by first | omega | decide | exact Or.inl ⟨by omega, by omega⟩ | exact Or.inr ⟨by omega, by omega⟩ | (constructor <;> omega) | fail) ?_)
  rw [show (1 : Int) + (u : Int) = ((1 + u : Nat) : Int) by omega, intsD_natE]
  refine lcW_inv (fun k : Nat => PyData.int (k : Int)) (List.range (1 + u)) (fun i acc cs => ∃ (ls : List Str) (ns' : List Int), Kds ls ∧ ls.length = i ∧ acc = ls.map .str ∧ cs = [.lst (ns'.map .int), .lst [ksD ks, .list (rs.map roomD)]]) ⟨[], ns5, (fun _ h => nomatch h), rfl, rfl, rfl⟩ (fun _ _ _ _ => trivial) ?_ ?_
  · rintro i x acc cs R1 R2 hx ⟨ls, ns', hk, hl, rfl, rfl⟩ hR1 hR2
    (first | simp_arith [onSome_some] | skip)
    refine kindOf_use hf0.1 hf0.2 fun y ns'' hy => ?_
    (first | simp_arith [onSome_some] | skip)
    exact hR1 _ _ ⟨ls ++ [y], ns'', fun k hk' => by
      rcases List.mem_append.mp hk' with z | z
      · exact hk k z
      · rw [List.mem_singleton] at z; subst z; exact hy, by simp [hl], by simp, rfl⟩
  rintro acc cs ⟨ls, ns6, hk, hkl, rfl, rfl⟩
  rw [List.length_range] at hkl
  have hsl := (srt_perm ls).length_eq
  have gr : goodRoom (srt ls, gs) := ⟨hk.srt, hg, by show 1 ≤ (srt ls).length; omega, by show (srt ls).length ≤ 4; omega, srt_srt _⟩
  have wg : Wh ([], [((srt ls, gs) : Room')]) := ⟨⟨(fun _ h => by cases h), (fun r h => by rw [List.mem_singleton] at h; subst h; exact gr), Nat.zero_le _, (by show 1 ≤ _; omega), (fun r h => by rw [List.mem_singleton] at h; subst h; show gs.length ≤ _; omega)⟩, Nat.zero_le _, (by show 1 ≤ _; omega), (fun r h => by rw [List.mem_singleton] at h; subst h; show gs.length ≤ _; omega)⟩
  (first | simp_arith [srtD_strs] | skip)
  repeat (with_reducible refine And.intro (by first | omega | decide | exact Or.inl ⟨by omega, by omega⟩ | exact Or.inr ⟨by omega, by omega⟩ | (constructor <;> omega) | fail) ?_)
  refine house_rows_use wg fun zs ns7 hz => ?_
  obtain ⟨z, hz1, rfl⟩ : ∃ z, RowOf (srt ls, gs) z ∧ zs = [z] := by
    cases hz with
    | cons h1 h2 => cases h2; exact ⟨_, h1, rfl⟩
  have a1 : L2.atI [PyData.str (keysRow []), PyData.str z] 1 = some (.str z) := rfl
  (first | simp_arith [a1] | skip)
  split
  · rename_i e
    have e := of_decide_eq_true e
    exact ⟨by omega, q _ _ _ _ ns7 (.many hz1 gr (by omega) (by omega))⟩
  · rename_i e
    have e : ¬ ((rs.length : Int) = 12) := fun z => e (decide_eq_true z)
    rw [x1, onSome_some]
    have hq := q _ _ _ _ ns7 (.room (ks := ks) hz1 gr (by omega) (show rs.length ≠ 12 by omega))
    have ec : rs.map roomD ++ [PyData.tuple [.list ((srt ls).map PyData.str), .list (gs.map PyData.str)]] = (rs ++ [((srt ls, gs) : Room')]).map roomD := by rw [List.map_append]; rfl
    rw [ec]
    exact ⟨by omega, by omega, by omega, hq⟩
/-! part p_cell -/
theorem cell_use {K : PySem.W.Frag} {ns : List Int} {k : Nat} {P : RV → List Cell → Prop} (q : ∀ c : Int, P (.f (.int c)) []) : TT_law_cell_at K [.s K ns, .d (.int (k : Int))] [] P := by
  (first | simp_arith [TT_law_cell_at, tt_law_cell_at] | skip)
  split
  · rename_i h
    have h := of_decide_eq_true h
    have e : ns[k]? = some (ns[k]'(by omega)) := List.getElem?_eq_getElem (by omega)
    refine ⟨_, rfl, rfl, _, rfl, (k : Int), rfl, ns[k]'(by omega), by rw [atI_natE]; exact e, ?_⟩
    (first | simp_arith [onSome_some] | skip)
    exact q _
  · exact q 0
/-! part p_law53 -/
theorem paired_at {α β : Type} {R : α → β → Prop} : ∀ {xs : List α} {ys : List β} {i : Nat} {y : β}, Paired R xs ys → ys[i]? = some y → ∃ x, xs[i]? = some x ∧ R x y
  | _, _, i, y, .nil, h => by simp at h
  | x :: _, y :: _, 0, y', .cons a t, h => ⟨x, rfl, (show y = y' by simpa using h) ▸ a⟩
  | _ :: _, _ :: _, i + 1, y', .cons a t, h => by simpa using paired_at t (by simpa using h)
theorem DkOk.snoc {ks ls gs : List Str} {rs : List Room'} (kp : DkOk ks rs) (gr : goodRoom (ls, gs)) (hl : gs.length ≤ 8) (h : rs.length < 12) : DkOk ks (rs ++ [(ls, gs)]) := by
  refine ⟨kp.k, kp.kl, fun r hr => ?_, fun r hr => ?_, by rw [List.length_append, List.length_singleton]; omega⟩
  · rcases List.mem_append.mp hr with hr | hr
    · exact kp.r r hr
    · rw [List.mem_singleton] at hr; subst hr; exact gr
  · rcases List.mem_append.mp hr with hr | hr
    · exact kp.rk r hr
    · rw [List.mem_singleton] at hr; subst hr; exact hl
theorem said_row {E : ExT} {O : OT} {ks ks' : List Str} {rs rs' : List Room'} {ws : List Nat} {row due : Str} {t : Tr} {P : RV → List Cell → Prop} (ht : IsDesk O ks rs ws [] t) (hw : ws.length = rs.length) (kp : DkOk ks rs) (st : RowS ks rs row due ks' rs')
    (q : ∀ t3 ws3, IsDesk O ks' rs' ws3 [] t3 → ws3.length = rs'.length → DkOk ks' rs' → P (.f (.str due)) [.tr t3]) : TT_law_said E O [.r 0, .d (.str row)] [.tr t] P := by
  have hrl := kp.rl
  cases st with
  | keys hk hl => exact said_ok (I := IsDesk O _ _ _ []) ht saidW_ok (fun P' PE' h => say_keys ht hk (by omega) h) fun t3 h3 => q t3 ws h3 hw ⟨hk, hl, kp.r, kp.rk, kp.rl⟩
  | worth hi hv h =>
    rename_i i v
    exact said_ok (I := IsDesk O ks rs (ws.set i v) []) ht saidW_ok (fun P' PE' h' => say_worth ht hw hi hv (fun _ => h') fun z => absurd h z) fun t3 h3 => q t3 _ h3 (by rw [List.length_set]; exact hw) kp
  | worthN hi hv h => exact said_step ht (fun P' PE' h' => say_worth ht hw hi hv (fun z => absurd z h) fun _ => h') (q t ws ht hw kp)
  | new => exact said_ok (I := IsDesk O [] [] [] []) ht saidW_ok (fun P' PE' h => say_new ht h) fun t3 h3 => q t3 [] h3 rfl .nil
  | room hz gr hl h =>
    rename_i ls gs
    exact said_ok (I := IsDesk O ks (rs ++ [(ls, gs)]) (ws ++ [0]) []) ht saidW_ok (fun P' PE' h' => say_room ht kp.rl hw hz gr (by omega) (fun _ => h') fun z => absurd z h) fun t3 h3 => q t3 (ws ++ [0]) h3 (by rw [List.length_append, List.length_append, hw]; rfl) (kp.snoc gr hl (by omega))
  | many hz gr hl h => exact said_many ht (fun P' PE' h' => say_room ht kp.rl hw hz gr (by omega) (fun z => by omega) fun _ => h') (q t ws ht hw kp)
theorem law_plain {K : PySem.W.Frag} {E : ExT} {O : OT} (ns : List Int) (hl : ns.length ≤ 63) : TT_law K E O [.s K ns] [] fun rv _ => rv = .f (.bool true) := by
  have szl : 200000 < sizeLine := by decide
  (first | simp_arith! [TT_law, tt_law] | skip)
  refine fun dx q => desk_init_use fun t1 ht1 => ?_
  (first | simp_arith! [onSome_some] | skip)
  refine fun dx q => desk_init_use fun t2 ht2 => ?_
  (first | simp_arith! [onSome_some] | skip)
  refine cutA (fun s => s = ⟨[some (.s K ns), some (.r 0), some (.r 1), none, none, none, none, none, none], [.tr t1, .tr t2]⟩) (fun M hM => ?_) ?_
  · (first | simp_arith [onSome_some] | skip)
    refine ⟨by omega, ?_⟩
    refine as_kept_use ht1 .nil (.inl ⟨rfl, rfl⟩) ?_
    (first | simp_arith [onSome_some] | skip)
    exact hM _ rfl
  rintro s' rfl
  (first | simp_arith! [onSome_some] | skip)
  refine cell_use (k := 0) fun c => ?_
  (first | simp_arith! [onSome_some] | skip)
  refine deck_use (many := 120) (by decide) fun ms => ?_
  (first | simp_arith! [onSome_some] | skip)
  refine house_use (most := 3) (lk := 2) (by decide) (by decide) (by decide) fun h ms1 b1 b2 b3 b4 => ?_
  have wh : Wh h := b3.wh b1 (by omega) (by omega)
  (first | simp_arith! [onSome_some] | skip)
  rw [show repL 9 [PyData.int 1] = (List.replicate 9 (1 : Int)).map PyData.int from rfl]
  refine ⟨by omega, ⟨by decide, by decide, by decide⟩, ?_⟩
  refine house_rows_use wh fun zs ms2 hz => ?_
  have hzl := Paired.len hz
  (first | simp_arith! [onSome_some] | skip)
  refine forW_map PyData.str (keysRow h.1 :: zs) (fun i s => ∃ (t2' : Tr) (ks' : List Str) (rs' : List Room') (ws : List Nat), IsDesk O ks' rs' ws [] t2' ∧ ws.length = rs'.length ∧ (i = 0 → rs' = []) ∧ (0 < i → ks' = h.1 ∧ rs' = h.2.take (i - 1)) ∧ s = ⟨[some (.s K ns), some (.r 0), some (.r 1), some (.d (houseD h)), none, none, none, none, none], [.tr t1, .tr t2', .lst (ms1.map .int), .lst (ms2.map .int)]⟩) ⟨t2, [], [], [], ht2, rfl, fun _ => rfl, fun z => absurd z (Nat.lt_irrefl 0), rfl⟩ ?_ ?_
  · rintro i z s' N hx ⟨t2', ks', rs', ws, ht, hw, e0, e1, rfl⟩ hN
    have ht0 := ht
    obtain ⟨dx, a1, a2, q0, rfl⟩ := ht
    have eo : PyData.eqv (.str (Str.ofString "ok")) (.str (Str.ofString "ok")) = true := by rw [eqv_str]; exact decide_eq_true rfl
    have fin : ∀ (t3 : Tr) (ks3 : List Str) (rs3 : List Room') (ws3 : List Nat), IsDesk O ks3 rs3 ws3 [] t3 → ws3.length = rs3.length → ks3 = h.1 → rs3 = h.2.take i → N ⟨[some (.s K ns), some (.r 0), some (.r 1), some (.d (houseD h)), some (.d (.str z)), none, none, none, none], [.tr t1, .tr t3, .lst (ms1.map .int), .lst (ms2.map .int)]⟩ := fun t3 ks3 rs3 ws3 h3 hw3 e1 e2 =>
      hN _ _ (wk_of [] (by simp [SubS, ltO, AVal.lt]) rfl rfl (by simp)) ⟨t3, ks3, rs3, ws3, h3, hw3, fun z => absurd z (Nat.succ_ne_zero i), fun _ => ⟨e1, e2⟩, rfl⟩
    cases i with
    | zero =>
      have : z = keysRow h.1 := by simpa using hx.symm
      subst this
      (first | simp_arith [deskT, deskF, lm7] | skip)
      refine say_n_keys ht0 b1 (by omega) fun t3 ht3 => ?_
      (first | simp_arith [eo] | skip)
      exact fin t3 _ _ _ ht3 hw rfl (by rw [e0 rfl]; rfl)
    | succ i =>
      have hx : zs[i]? = some z := by simpa using hx
      obtain ⟨rfl, er⟩ := e1 (Nat.succ_pos i)
      obtain ⟨r, hr, hrz⟩ := paired_at hz hx
      obtain ⟨ls, gs⟩ := r
      have hrm := List.mem_of_getElem? hr
      have hil := (List.getElem?_eq_some_iff.mp hr).1
      have er : rs' = h.2.take i := er
      have erl : rs'.length = i := by rw [er, List.length_take]; omega
      have hk8 := b3.k _ hrm
      (first | simp_arith [deskT, deskF, lm7] | skip)
      refine say_n_room ht0 (by omega) hw hrz (b3.ok _ hrm) (by have : gs.length ≤ 8 := hk8; omega) (by omega) fun _ t3 ht3 => ?_
      (first | simp_arith [eo] | skip)
      exact fin t3 _ _ _ ht3 (by simp [hw]) rfl (by rw [er, List.take_add_one, hr]; rfl)
  rintro s' ⟨t2', ks', rs', ws2, ht2', hw2, e0, e1, rfl⟩
  obtain ⟨rfl, er⟩ := e1 (by simp)
  have er : rs' = h.2 := by rw [er, List.length_cons, Nat.add_sub_cancel, ← hzl, List.take_length]
  subst er
  (first | simp_arith! [onSome_some] | skip)
  obtain ⟨J, eJ, hJ⟩ : ∃ J : Nat, max (2 : Int) (min (ns.length : Int) 20) = ((J + 1 : Nat) : Int) ∧ J ≤ 19 := ⟨max 1 (min 19 (ns.length - 1)), by omega, by omega⟩
  have ir : intsD 1 ((J + 1 : Nat) : Int) = (List.range J).map fun k : Nat => PyData.int ((k + 1 : Nat) : Int) := by
    unfold intsD
    rw [show (((J + 1 : Nat) : Int) - 1).toNat = J by omega]
    refine List.map_congr_left fun k _ => ?_
    rw [show (1 : Int) + (k : Int) = ((k + 1 : Nat) : Int) by omega]
  rw [eJ, ir]
  refine ⟨by omega, by omega, ?_⟩
  refine forW_map (fun k : Nat => PyData.int ((k + 1 : Nat) : Int)) (List.range J) (fun i s => ∃ (t1' : Tr) (ks : List Str) (rs : List Room') (ws : List Nat), IsDesk O ks rs ws [] t1' ∧ ws.length = rs.length ∧ DkOk ks rs ∧ s = ⟨[some (.s K ns), some (.r 0), some (.r 1), some (.d (houseD h)), none, some (.r 4), none, none, none], [.tr t1', .tr t2', .lst (ms1.map .int), .lst (ms2.map .int), .lst [ksD ks, .list (rs.map roomD)]]⟩) ⟨t1, [], [], [], ht1, rfl, .nil, by simp [houseD, ksD]⟩ ?_ ?_
  · rintro i k s' N hx ⟨t1', ks, rs, ws, ht, hw, kp, rfl⟩ hN
    (first | simp_arith! [onSome_some] | skip)
    refine cell_use fun c => ?_
    (first | simp_arith! [onSome_some] | skip)
    refine deck_use (many := 120) (by decide) fun ms3 => ?_
    (first | simp_arith! [onSome_some] | skip)
    refine ⟨by decide, ?_⟩
    rw [show List.idxOf 4 [1 + 1 + 1 + 1 + 1, 4] = 1 by decide]
    refine law_row_use kp fun row due ks' rs' ms4 st => ?_
    (first | simp_arith [onSome_some] | skip)
    have fin : ∀ (t3 : Tr) (ws3 : List Nat), IsDesk O ks' rs' ws3 [] t3 → ws3.length = rs'.length → DkOk ks' rs' → N ⟨[some (.s K ns), some (.r 0), some (.r 1), some (.d (houseD h)), some (.d (.str row)), some (.r 4), some (.d (.int ((k + 1 : Nat) : Int))), some (.r 5), some (.d (.str due))], [.tr t3, .tr t2', .lst (ms1.map .int), .lst (ms2.map .int), .lst [ksD ks', .list (rs'.map roomD)], .lst (ms4.map .int)]⟩ := fun t3 ws3 h3 hw3 kp3 =>
      hN _ _ (wk_of [.lst (ms4.map .int)] (by simp [SubS, ltO, AVal.lt]) rfl rfl (by simp)) ⟨t3, ks', rs', ws3, h3, hw3, kp3, rfl⟩
    refine said_row ht hw kp st fun t3 ws3 h3 hw3 kp3 => ?_
    have ed : PyData.eqv (.str due) (.str due) = true := by rw [eqv_str]; exact decide_eq_true rfl
    have ed2 : decide (due = due) = true := decide_eq_true rfl
    (first | simp_arith [ed, ed2] | skip)
    refine ⟨by decide, ?_⟩
    rw [show List.idxOf 4 [0, 4] = 1 by decide]
    refine as_kept_use h3 kp3 (.inr ⟨rfl, rfl⟩) ?_
    (first | simp_arith [onSome_some] | skip)
    exact hN _ _ (wk_of [.lst (ms4.map .int)] (by simp [SubS, ltO, AVal.lt, houseD, ksD]) rfl rfl (by simp)) ⟨t3, ks', rs', ws3, h3, hw3, kp3, rfl⟩
  · rintro s' ⟨t1', ks, rs, ws, ht, hw, kp, rfl⟩
    (first | simp_arith [onSome_some] | skip)
    refine ⟨by omega, ?_⟩
    refine as_kept_use ht2' ⟨b1, by omega, b3.ok, b3.k, by omega⟩ (.inl ⟨rfl, rfl⟩) ?_
    (first | simp_arith [onSome_some] | skip)
    done
theorem ok_law {P : Program} {w : World} {K : PySem.W.Frag} {mg : Str → Option Value} {base : Heap} (T : Tx K mg w) : FnOk P w K mg base CX0 11 T.f_law T.d_law ["script"] (spLaw K) := okLaw_A (kk_law T) law_plain
end Kr
namespace Kr
open PySem L2
theorem all_mk {l : PySem.W.OpenLaw} {w : World} {K : PySem.W.Frag} {h : Heap} {mg : Str → Option Value} {fa : Addr} (X : K.In h) (G : h.Ns mainGlobals mg) (hfa : mg "law" = some (.ref fa))
    {f_is_kind_houses : Addr} {od0 an0 : Option Addr} {sl0 : Array (Option Value)} {oc0 kV0 dc0 pm0 cd0 ct0 : Value}
    {f_are_keys : Addr} {od1 an1 : Option Addr} {sl1 : Array (Option Value)} {oc1 kV1 dc1 pm1 cd1 ct1 : Value}
    {f_is_room : Addr} {od2 an2 : Option Addr} {sl2 : Array (Option Value)} {oc2 kV2 dc2 pm2 cd2 ct2 : Value}
    {f_is_house : Addr} {od3 an3 : Option Addr} {sl3 : Array (Option Value)} {oc3 kV3 dc3 pm3 cd3 ct3 : Value}
    {f_need_house : Addr} {od4 an4 : Option Addr} {sl4 : Array (Option Value)} {oc4 kV4 dc4 pm4 cd4 ct4 : Value}
    {f_is_plain : Addr} {od5 an5 : Option Addr} {sl5 : Array (Option Value)} {oc5 kV5 dc5 pm5 cd5 ct5 : Value}
    {f_may_be_opened : Addr} {od6 an6 : Option Addr} {sl6 : Array (Option Value)} {oc6 kV6 dc6 pm6 cd6 ct6 : Value}
    {f_walked : Addr} {od7 an7 : Option Addr} {sl7 : Array (Option Value)} {oc7 kV7 dc7 pm7 cd7 ct7 : Value}
    {f_keys_behind : Addr} {od8 an8 : Option Addr} {sl8 : Array (Option Value)} {oc8 kV8 dc8 pm8 cd8 ct8 : Value}
    {f_next_rooms : Addr} {od9 an9 : Option Addr} {sl9 : Array (Option Value)} {oc9 kV9 dc9 pm9 cd9 ct9 : Value}
    {f_kinds_counted : Addr} {od10 an10 : Option Addr} {sl10 : Array (Option Value)} {oc10 kV10 dc10 pm10 cd10 ct10 : Value}
    {f_kinds_that_come : Addr} {od11 an11 : Option Addr} {sl11 : Array (Option Value)} {oc11 kV11 dc11 pm11 cd11 ct11 : Value}
    {f_rooms_that_come : Addr} {od12 an12 : Option Addr} {sl12 : Array (Option Value)} {oc12 kV12 dc12 pm12 cd12 ct12 : Value}
    {f_need_plain : Addr} {od13 an13 : Option Addr} {sl13 : Array (Option Value)} {oc13 kV13 dc13 pm13 cd13 ct13 : Value}
    {f_kinds_short : Addr} {od14 an14 : Option Addr} {sl14 : Array (Option Value)} {oc14 kV14 dc14 pm14 cd14 ct14 : Value}
    {f_can_all : Addr} {od15 an15 : Option Addr} {sl15 : Array (Option Value)} {oc15 kV15 dc15 pm15 cd15 ct15 : Value}
    {f_house_left : Addr} {od16 an16 : Option Addr} {sl16 : Array (Option Value)} {oc16 kV16 dc16 pm16 cd16 ct16 : Value}
    {f_hand_behind : Addr} {od17 an17 : Option Addr} {sl17 : Array (Option Value)} {oc17 kV17 dc17 pm17 cd17 ct17 : Value}
    {f_leads_on : Addr} {od18 an18 : Option Addr} {sl18 : Array (Option Value)} {oc18 kV18 dc18 pm18 cd18 ct18 : Value}
    {f_order_of_all : Addr} {od19 an19 : Option Addr} {sl19 : Array (Option Value)} {oc19 kV19 dc19 pm19 cd19 ct19 : Value}
    {f_shut_kinds : Addr} {od20 an20 : Option Addr} {sl20 : Array (Option Value)} {oc20 kV20 dc20 pm20 cd20 ct20 : Value}
    {f_told_opening : Addr} {od21 an21 : Option Addr} {sl21 : Array (Option Value)} {oc21 kV21 dc21 pm21 cd21 ct21 : Value}
    {f_kinds_lacking : Addr} {od22 an22 : Option Addr} {sl22 : Array (Option Value)} {oc22 kV22 dc22 pm22 cd22 ct22 : Value}
    {f_kinds_led_to : Addr} {od23 an23 : Option Addr} {sl23 : Array (Option Value)} {oc23 kV23 dc23 pm23 cd23 ct23 : Value}
    {f_shut_groups : Addr} {od24 an24 : Option Addr} {sl24 : Array (Option Value)} {oc24 kV24 dc24 pm24 cd24 ct24 : Value}
    {f_keys_to_buy : Addr} {od25 an25 : Option Addr} {sl25 : Array (Option Value)} {oc25 kV25 dc25 pm25 cd25 ct25 : Value}
    {f_first_order : Addr} {od26 an26 : Option Addr} {sl26 : Array (Option Value)} {oc26 kV26 dc26 pm26 cd26 ct26 : Value}
    {f_need_few : Addr} {od27 an27 : Option Addr} {sl27 : Array (Option Value)} {oc27 kV27 dc27 pm27 cd27 ct27 : Value}
    {f_counted_kinds : Addr} {od28 an28 : Option Addr} {sl28 : Array (Option Value)} {oc28 kV28 dc28 pm28 cd28 ct28 : Value}
    {f_how_many_orders : Addr} {od29 an29 : Option Addr} {sl29 : Array (Option Value)} {oc29 kV29 dc29 pm29 cd29 ct29 : Value}
    {f_nth_order : Addr} {od30 an30 : Option Addr} {sl30 : Array (Option Value)} {oc30 kV30 dc30 pm30 cd30 ct30 : Value}
    {f_rooms_of : Addr} {od31 an31 : Option Addr} {sl31 : Array (Option Value)} {oc31 kV31 dc31 pm31 cd31 ct31 : Value}
    {f_sets_that_come : Addr} {od32 an32 : Option Addr} {sl32 : Array (Option Value)} {oc32 kV32 dc32 pm32 cd32 ct32 : Value}
    {f_need_worths : Addr} {od33 an33 : Option Addr} {sl33 : Array (Option Value)} {oc33 kV33 dc33 pm33 cd33 ct33 : Value}
    {f_worth_of : Addr} {od34 an34 : Option Addr} {sl34 : Array (Option Value)} {oc34 kV34 dc34 pm34 cd34 ct34 : Value}
    {f_most_rooms : Addr} {od35 an35 : Option Addr} {sl35 : Array (Option Value)} {oc35 kV35 dc35 pm35 cd35 ct35 : Value}
    {f_most_worth : Addr} {od36 an36 : Option Addr} {sl36 : Array (Option Value)} {oc36 kV36 dc36 pm36 cd36 ct36 : Value}
    {f_all_of : Addr} {od37 an37 : Option Addr} {sl37 : Array (Option Value)} {oc37 kV37 dc37 pm37 cd37 ct37 : Value}
    {f_is_kind_rows : Addr} {od38 an38 : Option Addr} {sl38 : Array (Option Value)} {oc38 kV38 dc38 pm38 cd38 ct38 : Value}
    {f_is_number : Addr} {od39 an39 : Option Addr} {sl39 : Array (Option Value)} {oc39 kV39 dc39 pm39 cd39 ct39 : Value}
    {f_keys_asked : Addr} {od40 an40 : Option Addr} {sl40 : Array (Option Value)} {oc40 kV40 dc40 pm40 cd40 ct40 : Value}
    {f_locks_asked : Addr} {od41 an41 : Option Addr} {sl41 : Array (Option Value)} {oc41 kV41 dc41 pm41 cd41 ct41 : Value}
    {f_joined_words : Addr} {od42 an42 : Option Addr} {sl42 : Array (Option Value)} {oc42 kV42 dc42 pm42 cd42 ct42 : Value}
    {f_words_asked : Addr} {od43 an43 : Option Addr} {sl43 : Array (Option Value)} {oc43 kV43 dc43 pm43 cd43 ct43 : Value}
    {f_show_keys : Addr} {od44 an44 : Option Addr} {sl44 : Array (Option Value)} {oc44 kV44 dc44 pm44 cd44 ct44 : Value}
    {f_show_room : Addr} {od45 an45 : Option Addr} {sl45 : Array (Option Value)} {oc45 kV45 dc45 pm45 cd45 ct45 : Value}
    {f_show_house : Addr} {od46 an46 : Option Addr} {sl46 : Array (Option Value)} {oc46 kV46 dc46 pm46 cd46 ct46 : Value}
    {f_opening_words : Addr} {od47 an47 : Option Addr} {sl47 : Array (Option Value)} {oc47 kV47 dc47 pm47 cd47 ct47 : Value}
    {f_law_cell_at : Addr} {od48 an48 : Option Addr} {sl48 : Array (Option Value)} {oc48 kV48 dc48 pm48 cd48 ct48 : Value}
    {f_law_numbers : Addr} {od49 an49 : Option Addr} {sl49 : Array (Option Value)} {oc49 kV49 dc49 pm49 cd49 ct49 : Value}
    {f_law_deck : Addr} {od50 an50 : Option Addr} {sl50 : Array (Option Value)} {oc50 kV50 dc50 pm50 cd50 ct50 : Value}
    {f_law_take : Addr} {od51 an51 : Option Addr} {sl51 : Array (Option Value)} {oc51 kV51 dc51 pm51 cd51 ct51 : Value}
    {f_law_kind : Addr} {od52 an52 : Option Addr} {sl52 : Array (Option Value)} {oc52 kV52 dc52 pm52 cd52 ct52 : Value}
    {f_law_keys : Addr} {od53 an53 : Option Addr} {sl53 : Array (Option Value)} {oc53 kV53 dc53 pm53 cd53 ct53 : Value}
    {f_law_house : Addr} {od54 an54 : Option Addr} {sl54 : Array (Option Value)} {oc54 kV54 dc54 pm54 cd54 ct54 : Value}
    {f_law_keys_written : Addr} {od55 an55 : Option Addr} {sl55 : Array (Option Value)} {oc55 kV55 dc55 pm55 cd55 ct55 : Value}
    {f_law_lines : Addr} {od56 an56 : Option Addr} {sl56 : Array (Option Value)} {oc56 kV56 dc56 pm56 cd56 ct56 : Value}
    {f_law_hand : Addr} {od57 an57 : Option Addr} {sl57 : Array (Option Value)} {oc57 kV57 dc57 pm57 cd57 ct57 : Value}
    {f_law_next : Addr} {od58 an58 : Option Addr} {sl58 : Array (Option Value)} {oc58 kV58 dc58 pm58 cd58 ct58 : Value}
    {f_law_words : Addr} {od59 an59 : Option Addr} {sl59 : Array (Option Value)} {oc59 kV59 dc59 pm59 cd59 ct59 : Value}
    {f_law_said : Addr} {od60 an60 : Option Addr} {sl60 : Array (Option Value)} {oc60 kV60 dc60 pm60 cd60 ct60 : Value}
    {f_law_house_rows : Addr} {od61 an61 : Option Addr} {sl61 : Array (Option Value)} {oc61 kV61 dc61 pm61 cd61 ct61 : Value}
    {f_law_row : Addr} {od62 an62 : Option Addr} {sl62 : Array (Option Value)} {oc62 kV62 dc62 pm62 cd62 ct62 : Value}
    {f_law_as_kept : Addr} {od63 an63 : Option Addr} {sl63 : Array (Option Value)} {oc63 kV63 dc63 pm63 cd63 ct63 : Value}
    {f_law : Addr} {od64 an64 : Option Addr} {sl64 : Array (Option Value)} {oc64 kV64 dc64 pm64 cd64 ct64 : Value}
    {f_Opened_init : Addr} {od65 an65 : Option Addr} {sl65 : Array (Option Value)} {oc65 kV65 dc65 pm65 cd65 ct65 : Value}
    {ow_Opened : Addr}
    {f_Opened_hand_at : Addr} {od66 an66 : Option Addr} {sl66 : Array (Option Value)} {oc66 kV66 dc66 pm66 cd66 ct66 : Value}
    {f_Opened_next_at : Addr} {od67 an67 : Option Addr} {sl67 : Array (Option Value)} {oc67 kV67 dc67 pm67 cd67 ct67 : Value}
    {f_Opened_to_all : Addr} {od68 an68 : Option Addr} {sl68 : Array (Option Value)} {oc68 kV68 dc68 pm68 cd68 ct68 : Value}
    {f_Desk_init : Addr} {od69 an69 : Option Addr} {sl69 : Array (Option Value)} {oc69 kV69 dc69 pm69 cd69 ct69 : Value}
    {ow_Desk : Addr}
    {f_Desk_begin_anew : Addr} {od70 an70 : Option Addr} {sl70 : Array (Option Value)} {oc70 kV70 dc70 pm70 cd70 ct70 : Value}
    {f_Desk_house : Addr} {od71 an71 : Option Addr} {sl71 : Array (Option Value)} {oc71 kV71 dc71 pm71 cd71 ct71 : Value}
    {f_Desk_put_room : Addr} {od72 an72 : Option Addr} {sl72 : Array (Option Value)} {oc72 kV72 dc72 pm72 cd72 ct72 : Value}
    {f_Desk_changed : Addr} {od73 an73 : Option Addr} {sl73 : Array (Option Value)} {oc73 kV73 dc73 pm73 cd73 ct73 : Value}
    {f_Desk_stands : Addr} {od74 an74 : Option Addr} {sl74 : Array (Option Value)} {oc74 kV74 dc74 pm74 cd74 ct74 : Value}
    {f_Desk_told : Addr} {od75 an75 : Option Addr} {sl75 : Array (Option Value)} {oc75 kV75 dc75 pm75 cd75 ct75 : Value}
    {f_Desk_say : Addr} {od76 an76 : Option Addr} {sl76 : Array (Option Value)} {oc76 kV76 dc76 pm76 cd76 ct76 : Value}
    {t_LETTERS_houses : Tok}
    {t_LONGEST_KIND : Tok}
    {t_MOST_LOCKS_houses : Tok}
    {t_MOST_ROOMS_orders : Tok}
    {t_FIGURES : Tok}
    {t_LETTERS_rows : Tok}
    {t_MOST_LETTERS : Tok}
    {t_MOST_LOCKS_rows : Tok}
    {dn_NUMBERS : Addr} {tk_NUMBERS_0 tk_NUMBERS_1 tk_NUMBERS_2 tk_NUMBERS_3 tk_NUMBERS_4 tk_NUMBERS_5 tk_NUMBERS_6 tk_NUMBERS_7 tk_NUMBERS_8 tk_NUMBERS_9 tk_NUMBERS_10 tk_NUMBERS_11 tk_NUMBERS_12 tk_NUMBERS_13 tk_NUMBERS_14 tk_NUMBERS_15 : Tok}
    {t_MOST_ROOMS_desk : Tok}
    {e_NoHouse : Addr}
    {e_NoPlain : Addr}
    {e_NoOrder : Addr}
    {e_NoNumber : Addr}
    {e_NoKind : Addr}
    {e_TooMany : Addr}
    {e_NoText : Addr}
    {e_NoRow : Addr}
    {e_NoStep : Addr}
    {e_KeyroomError : Addr}
    {fi : Addr} {odI anI : Option Addr} {slI : Array (Option Value)} {ocI kVI dcI pmI cdI ctI : Value} {nmS qS : Str} {NS : Addr} {bsS : List Value} {snS : List Str} {subS : List Value} {abS : Bool} {colS : Option Bool} {ddS : Option Addr} {m0S m1S m2S m3S m5S : Option Value}
    (a_is_kind_houses : PySem.W.nsIn K mainGlobals "is_kind_houses" = some (some (.ref f_is_kind_houses)))
    (l_is_kind_houses : K.lookup f_is_kind_houses = some ⟨oc0, od0, .func (PySem.W.fnOf "is_kind" "is_kind" (defArgs s_is_kind_houses) (defBody s_is_kind_houses) (defScope s_is_kind_houses) .none kV0 dc0 pm0 an0 cd0 ct0), sl0⟩)
    (e_is_kind_houses : PySem.W.codeIn K cd0 "is_kind" = true) (k_is_kind_houses : PySem.W.keepIn K (.ref f_is_kind_houses) = true)
    (a_are_keys : PySem.W.nsIn K mainGlobals "are_keys" = some (some (.ref f_are_keys)))
    (l_are_keys : K.lookup f_are_keys = some ⟨oc1, od1, .func (PySem.W.fnOf "are_keys" "are_keys" (defArgs s_are_keys) (defBody s_are_keys) (defScope s_are_keys) .none kV1 dc1 pm1 an1 cd1 ct1), sl1⟩)
    (e_are_keys : PySem.W.codeIn K cd1 "are_keys" = true) (k_are_keys : PySem.W.keepIn K (.ref f_are_keys) = true)
    (a_is_room : PySem.W.nsIn K mainGlobals "is_room" = some (some (.ref f_is_room)))
    (l_is_room : K.lookup f_is_room = some ⟨oc2, od2, .func (PySem.W.fnOf "is_room" "is_room" (defArgs s_is_room) (defBody s_is_room) (defScope s_is_room) .none kV2 dc2 pm2 an2 cd2 ct2), sl2⟩)
    (e_is_room : PySem.W.codeIn K cd2 "is_room" = true) (k_is_room : PySem.W.keepIn K (.ref f_is_room) = true)
    (a_is_house : PySem.W.nsIn K mainGlobals "is_house" = some (some (.ref f_is_house)))
    (l_is_house : K.lookup f_is_house = some ⟨oc3, od3, .func (PySem.W.fnOf "is_house" "is_house" (defArgs s_is_house) (defBody s_is_house) (defScope s_is_house) .none kV3 dc3 pm3 an3 cd3 ct3), sl3⟩)
    (e_is_house : PySem.W.codeIn K cd3 "is_house" = true) (k_is_house : PySem.W.keepIn K (.ref f_is_house) = true)
    (a_need_house : PySem.W.nsIn K mainGlobals "need_house" = some (some (.ref f_need_house)))
    (l_need_house : K.lookup f_need_house = some ⟨oc4, od4, .func (PySem.W.fnOf "need_house" "need_house" (defArgs s_need_house) (defBody s_need_house) (defScope s_need_house) .none kV4 dc4 pm4 an4 cd4 ct4), sl4⟩)
    (e_need_house : PySem.W.codeIn K cd4 "need_house" = true) (k_need_house : PySem.W.keepIn K (.ref f_need_house) = true)
    (a_is_plain : PySem.W.nsIn K mainGlobals "is_plain" = some (some (.ref f_is_plain)))
    (l_is_plain : K.lookup f_is_plain = some ⟨oc5, od5, .func (PySem.W.fnOf "is_plain" "is_plain" (defArgs s_is_plain) (defBody s_is_plain) (defScope s_is_plain) .none kV5 dc5 pm5 an5 cd5 ct5), sl5⟩)
    (e_is_plain : PySem.W.codeIn K cd5 "is_plain" = true) (k_is_plain : PySem.W.keepIn K (.ref f_is_plain) = true)
    (a_may_be_opened : PySem.W.nsIn K mainGlobals "may_be_opened" = some (some (.ref f_may_be_opened)))
    (l_may_be_opened : K.lookup f_may_be_opened = some ⟨oc6, od6, .func (PySem.W.fnOf "may_be_opened" "may_be_opened" (defArgs s_may_be_opened) (defBody s_may_be_opened) (defScope s_may_be_opened) .none kV6 dc6 pm6 an6 cd6 ct6), sl6⟩)
    (e_may_be_opened : PySem.W.codeIn K cd6 "may_be_opened" = true) (k_may_be_opened : PySem.W.keepIn K (.ref f_may_be_opened) = true)
    (a_walked : PySem.W.nsIn K mainGlobals "walked" = some (some (.ref f_walked)))
    (l_walked : K.lookup f_walked = some ⟨oc7, od7, .func (PySem.W.fnOf "walked" "walked" (defArgs s_walked) (defBody s_walked) (defScope s_walked) .none kV7 dc7 pm7 an7 cd7 ct7), sl7⟩)
    (e_walked : PySem.W.codeIn K cd7 "walked" = true) (k_walked : PySem.W.keepIn K (.ref f_walked) = true)
    (a_keys_behind : PySem.W.nsIn K mainGlobals "keys_behind" = some (some (.ref f_keys_behind)))
    (l_keys_behind : K.lookup f_keys_behind = some ⟨oc8, od8, .func (PySem.W.fnOf "keys_behind" "keys_behind" (defArgs s_keys_behind) (defBody s_keys_behind) (defScope s_keys_behind) .none kV8 dc8 pm8 an8 cd8 ct8), sl8⟩)
    (e_keys_behind : PySem.W.codeIn K cd8 "keys_behind" = true) (k_keys_behind : PySem.W.keepIn K (.ref f_keys_behind) = true)
    (a_next_rooms : PySem.W.nsIn K mainGlobals "next_rooms" = some (some (.ref f_next_rooms)))
    (l_next_rooms : K.lookup f_next_rooms = some ⟨oc9, od9, .func (PySem.W.fnOf "next_rooms" "next_rooms" (defArgs s_next_rooms) (defBody s_next_rooms) (defScope s_next_rooms) .none kV9 dc9 pm9 an9 cd9 ct9), sl9⟩)
    (e_next_rooms : PySem.W.codeIn K cd9 "next_rooms" = true) (k_next_rooms : PySem.W.keepIn K (.ref f_next_rooms) = true)
    (a_kinds_counted : PySem.W.nsIn K mainGlobals "kinds_counted" = some (some (.ref f_kinds_counted)))
    (l_kinds_counted : K.lookup f_kinds_counted = some ⟨oc10, od10, .func (PySem.W.fnOf "kinds_counted" "kinds_counted" (defArgs s_kinds_counted) (defBody s_kinds_counted) (defScope s_kinds_counted) .none kV10 dc10 pm10 an10 cd10 ct10), sl10⟩)
    (e_kinds_counted : PySem.W.codeIn K cd10 "kinds_counted" = true) (k_kinds_counted : PySem.W.keepIn K (.ref f_kinds_counted) = true)
    (a_kinds_that_come : PySem.W.nsIn K mainGlobals "kinds_that_come" = some (some (.ref f_kinds_that_come)))
    (l_kinds_that_come : K.lookup f_kinds_that_come = some ⟨oc11, od11, .func (PySem.W.fnOf "kinds_that_come" "kinds_that_come" (defArgs s_kinds_that_come) (defBody s_kinds_that_come) (defScope s_kinds_that_come) .none kV11 dc11 pm11 an11 cd11 ct11), sl11⟩)
    (e_kinds_that_come : PySem.W.codeIn K cd11 "kinds_that_come" = true) (k_kinds_that_come : PySem.W.keepIn K (.ref f_kinds_that_come) = true)
    (a_rooms_that_come : PySem.W.nsIn K mainGlobals "rooms_that_come" = some (some (.ref f_rooms_that_come)))
    (l_rooms_that_come : K.lookup f_rooms_that_come = some ⟨oc12, od12, .func (PySem.W.fnOf "rooms_that_come" "rooms_that_come" (defArgs s_rooms_that_come) (defBody s_rooms_that_come) (defScope s_rooms_that_come) .none kV12 dc12 pm12 an12 cd12 ct12), sl12⟩)
    (e_rooms_that_come : PySem.W.codeIn K cd12 "rooms_that_come" = true) (k_rooms_that_come : PySem.W.keepIn K (.ref f_rooms_that_come) = true)
    (a_need_plain : PySem.W.nsIn K mainGlobals "need_plain" = some (some (.ref f_need_plain)))
    (l_need_plain : K.lookup f_need_plain = some ⟨oc13, od13, .func (PySem.W.fnOf "need_plain" "need_plain" (defArgs s_need_plain) (defBody s_need_plain) (defScope s_need_plain) .none kV13 dc13 pm13 an13 cd13 ct13), sl13⟩)
    (e_need_plain : PySem.W.codeIn K cd13 "need_plain" = true) (k_need_plain : PySem.W.keepIn K (.ref f_need_plain) = true)
    (a_kinds_short : PySem.W.nsIn K mainGlobals "kinds_short" = some (some (.ref f_kinds_short)))
    (l_kinds_short : K.lookup f_kinds_short = some ⟨oc14, od14, .func (PySem.W.fnOf "kinds_short" "kinds_short" (defArgs s_kinds_short) (defBody s_kinds_short) (defScope s_kinds_short) .none kV14 dc14 pm14 an14 cd14 ct14), sl14⟩)
    (e_kinds_short : PySem.W.codeIn K cd14 "kinds_short" = true) (k_kinds_short : PySem.W.keepIn K (.ref f_kinds_short) = true)
    (a_can_all : PySem.W.nsIn K mainGlobals "can_all" = some (some (.ref f_can_all)))
    (l_can_all : K.lookup f_can_all = some ⟨oc15, od15, .func (PySem.W.fnOf "can_all" "can_all" (defArgs s_can_all) (defBody s_can_all) (defScope s_can_all) .none kV15 dc15 pm15 an15 cd15 ct15), sl15⟩)
    (e_can_all : PySem.W.codeIn K cd15 "can_all" = true) (k_can_all : PySem.W.keepIn K (.ref f_can_all) = true)
    (a_house_left : PySem.W.nsIn K mainGlobals "house_left" = some (some (.ref f_house_left)))
    (l_house_left : K.lookup f_house_left = some ⟨oc16, od16, .func (PySem.W.fnOf "house_left" "house_left" (defArgs s_house_left) (defBody s_house_left) (defScope s_house_left) .none kV16 dc16 pm16 an16 cd16 ct16), sl16⟩)
    (e_house_left : PySem.W.codeIn K cd16 "house_left" = true) (k_house_left : PySem.W.keepIn K (.ref f_house_left) = true)
    (a_hand_behind : PySem.W.nsIn K mainGlobals "hand_behind" = some (some (.ref f_hand_behind)))
    (l_hand_behind : K.lookup f_hand_behind = some ⟨oc17, od17, .func (PySem.W.fnOf "hand_behind" "hand_behind" (defArgs s_hand_behind) (defBody s_hand_behind) (defScope s_hand_behind) .none kV17 dc17 pm17 an17 cd17 ct17), sl17⟩)
    (e_hand_behind : PySem.W.codeIn K cd17 "hand_behind" = true) (k_hand_behind : PySem.W.keepIn K (.ref f_hand_behind) = true)
    (a_leads_on : PySem.W.nsIn K mainGlobals "leads_on" = some (some (.ref f_leads_on)))
    (l_leads_on : K.lookup f_leads_on = some ⟨oc18, od18, .func (PySem.W.fnOf "leads_on" "leads_on" (defArgs s_leads_on) (defBody s_leads_on) (defScope s_leads_on) .none kV18 dc18 pm18 an18 cd18 ct18), sl18⟩)
    (e_leads_on : PySem.W.codeIn K cd18 "leads_on" = true) (k_leads_on : PySem.W.keepIn K (.ref f_leads_on) = true)
    (a_order_of_all : PySem.W.nsIn K mainGlobals "order_of_all" = some (some (.ref f_order_of_all)))
    (l_order_of_all : K.lookup f_order_of_all = some ⟨oc19, od19, .func (PySem.W.fnOf "order_of_all" "order_of_all" (defArgs s_order_of_all) (defBody s_order_of_all) (defScope s_order_of_all) .none kV19 dc19 pm19 an19 cd19 ct19), sl19⟩)
    (e_order_of_all : PySem.W.codeIn K cd19 "order_of_all" = true) (k_order_of_all : PySem.W.keepIn K (.ref f_order_of_all) = true)
    (a_shut_kinds : PySem.W.nsIn K mainGlobals "shut_kinds" = some (some (.ref f_shut_kinds)))
    (l_shut_kinds : K.lookup f_shut_kinds = some ⟨oc20, od20, .func (PySem.W.fnOf "shut_kinds" "shut_kinds" (defArgs s_shut_kinds) (defBody s_shut_kinds) (defScope s_shut_kinds) .none kV20 dc20 pm20 an20 cd20 ct20), sl20⟩)
    (e_shut_kinds : PySem.W.codeIn K cd20 "shut_kinds" = true) (k_shut_kinds : PySem.W.keepIn K (.ref f_shut_kinds) = true)
    (a_told_opening : PySem.W.nsIn K mainGlobals "told_opening" = some (some (.ref f_told_opening)))
    (l_told_opening : K.lookup f_told_opening = some ⟨oc21, od21, .func (PySem.W.fnOf "told_opening" "told_opening" (defArgs s_told_opening) (defBody s_told_opening) (defScope s_told_opening) .none kV21 dc21 pm21 an21 cd21 ct21), sl21⟩)
    (e_told_opening : PySem.W.codeIn K cd21 "told_opening" = true) (k_told_opening : PySem.W.keepIn K (.ref f_told_opening) = true)
    (a_kinds_lacking : PySem.W.nsIn K mainGlobals "kinds_lacking" = some (some (.ref f_kinds_lacking)))
    (l_kinds_lacking : K.lookup f_kinds_lacking = some ⟨oc22, od22, .func (PySem.W.fnOf "kinds_lacking" "kinds_lacking" (defArgs s_kinds_lacking) (defBody s_kinds_lacking) (defScope s_kinds_lacking) .none kV22 dc22 pm22 an22 cd22 ct22), sl22⟩)
    (e_kinds_lacking : PySem.W.codeIn K cd22 "kinds_lacking" = true) (k_kinds_lacking : PySem.W.keepIn K (.ref f_kinds_lacking) = true)
    (a_kinds_led_to : PySem.W.nsIn K mainGlobals "kinds_led_to" = some (some (.ref f_kinds_led_to)))
    (l_kinds_led_to : K.lookup f_kinds_led_to = some ⟨oc23, od23, .func (PySem.W.fnOf "kinds_led_to" "kinds_led_to" (defArgs s_kinds_led_to) (defBody s_kinds_led_to) (defScope s_kinds_led_to) .none kV23 dc23 pm23 an23 cd23 ct23), sl23⟩)
    (e_kinds_led_to : PySem.W.codeIn K cd23 "kinds_led_to" = true) (k_kinds_led_to : PySem.W.keepIn K (.ref f_kinds_led_to) = true)
    (a_shut_groups : PySem.W.nsIn K mainGlobals "shut_groups" = some (some (.ref f_shut_groups)))
    (l_shut_groups : K.lookup f_shut_groups = some ⟨oc24, od24, .func (PySem.W.fnOf "shut_groups" "shut_groups" (defArgs s_shut_groups) (defBody s_shut_groups) (defScope s_shut_groups) .none kV24 dc24 pm24 an24 cd24 ct24), sl24⟩)
    (e_shut_groups : PySem.W.codeIn K cd24 "shut_groups" = true) (k_shut_groups : PySem.W.keepIn K (.ref f_shut_groups) = true)
    (a_keys_to_buy : PySem.W.nsIn K mainGlobals "keys_to_buy" = some (some (.ref f_keys_to_buy)))
    (l_keys_to_buy : K.lookup f_keys_to_buy = some ⟨oc25, od25, .func (PySem.W.fnOf "keys_to_buy" "keys_to_buy" (defArgs s_keys_to_buy) (defBody s_keys_to_buy) (defScope s_keys_to_buy) .none kV25 dc25 pm25 an25 cd25 ct25), sl25⟩)
    (e_keys_to_buy : PySem.W.codeIn K cd25 "keys_to_buy" = true) (k_keys_to_buy : PySem.W.keepIn K (.ref f_keys_to_buy) = true)
    (a_first_order : PySem.W.nsIn K mainGlobals "first_order" = some (some (.ref f_first_order)))
    (l_first_order : K.lookup f_first_order = some ⟨oc26, od26, .func (PySem.W.fnOf "first_order" "first_order" (defArgs s_first_order) (defBody s_first_order) (defScope s_first_order) .none kV26 dc26 pm26 an26 cd26 ct26), sl26⟩)
    (e_first_order : PySem.W.codeIn K cd26 "first_order" = true) (k_first_order : PySem.W.keepIn K (.ref f_first_order) = true)
    (a_need_few : PySem.W.nsIn K mainGlobals "need_few" = some (some (.ref f_need_few)))
    (l_need_few : K.lookup f_need_few = some ⟨oc27, od27, .func (PySem.W.fnOf "need_few" "need_few" (defArgs s_need_few) (defBody s_need_few) (defScope s_need_few) .none kV27 dc27 pm27 an27 cd27 ct27), sl27⟩)
    (e_need_few : PySem.W.codeIn K cd27 "need_few" = true) (k_need_few : PySem.W.keepIn K (.ref f_need_few) = true)
    (a_counted_kinds : PySem.W.nsIn K mainGlobals "counted_kinds" = some (some (.ref f_counted_kinds)))
    (l_counted_kinds : K.lookup f_counted_kinds = some ⟨oc28, od28, .func (PySem.W.fnOf "counted_kinds" "counted_kinds" (defArgs s_counted_kinds) (defBody s_counted_kinds) (defScope s_counted_kinds) .none kV28 dc28 pm28 an28 cd28 ct28), sl28⟩)
    (e_counted_kinds : PySem.W.codeIn K cd28 "counted_kinds" = true) (k_counted_kinds : PySem.W.keepIn K (.ref f_counted_kinds) = true)
    (a_how_many_orders : PySem.W.nsIn K mainGlobals "how_many_orders" = some (some (.ref f_how_many_orders)))
    (l_how_many_orders : K.lookup f_how_many_orders = some ⟨oc29, od29, .func (PySem.W.fnOf "how_many_orders" "how_many_orders" (defArgs s_how_many_orders) (defBody s_how_many_orders) (defScope s_how_many_orders) .none kV29 dc29 pm29 an29 cd29 ct29), sl29⟩)
    (e_how_many_orders : PySem.W.codeIn K cd29 "how_many_orders" = true) (k_how_many_orders : PySem.W.keepIn K (.ref f_how_many_orders) = true)
    (a_nth_order : PySem.W.nsIn K mainGlobals "nth_order" = some (some (.ref f_nth_order)))
    (l_nth_order : K.lookup f_nth_order = some ⟨oc30, od30, .func (PySem.W.fnOf "nth_order" "nth_order" (defArgs s_nth_order) (defBody s_nth_order) (defScope s_nth_order) .none kV30 dc30 pm30 an30 cd30 ct30), sl30⟩)
    (e_nth_order : PySem.W.codeIn K cd30 "nth_order" = true) (k_nth_order : PySem.W.keepIn K (.ref f_nth_order) = true)
    (a_rooms_of : PySem.W.nsIn K mainGlobals "rooms_of" = some (some (.ref f_rooms_of)))
    (l_rooms_of : K.lookup f_rooms_of = some ⟨oc31, od31, .func (PySem.W.fnOf "rooms_of" "rooms_of" (defArgs s_rooms_of) (defBody s_rooms_of) (defScope s_rooms_of) .none kV31 dc31 pm31 an31 cd31 ct31), sl31⟩)
    (e_rooms_of : PySem.W.codeIn K cd31 "rooms_of" = true) (k_rooms_of : PySem.W.keepIn K (.ref f_rooms_of) = true)
    (a_sets_that_come : PySem.W.nsIn K mainGlobals "sets_that_come" = some (some (.ref f_sets_that_come)))
    (l_sets_that_come : K.lookup f_sets_that_come = some ⟨oc32, od32, .func (PySem.W.fnOf "sets_that_come" "sets_that_come" (defArgs s_sets_that_come) (defBody s_sets_that_come) (defScope s_sets_that_come) .none kV32 dc32 pm32 an32 cd32 ct32), sl32⟩)
    (e_sets_that_come : PySem.W.codeIn K cd32 "sets_that_come" = true) (k_sets_that_come : PySem.W.keepIn K (.ref f_sets_that_come) = true)
    (a_need_worths : PySem.W.nsIn K mainGlobals "need_worths" = some (some (.ref f_need_worths)))
    (l_need_worths : K.lookup f_need_worths = some ⟨oc33, od33, .func (PySem.W.fnOf "need_worths" "need_worths" (defArgs s_need_worths) (defBody s_need_worths) (defScope s_need_worths) .none kV33 dc33 pm33 an33 cd33 ct33), sl33⟩)
    (e_need_worths : PySem.W.codeIn K cd33 "need_worths" = true) (k_need_worths : PySem.W.keepIn K (.ref f_need_worths) = true)
    (a_worth_of : PySem.W.nsIn K mainGlobals "worth_of" = some (some (.ref f_worth_of)))
    (l_worth_of : K.lookup f_worth_of = some ⟨oc34, od34, .func (PySem.W.fnOf "worth_of" "worth_of" (defArgs s_worth_of) (defBody s_worth_of) (defScope s_worth_of) .none kV34 dc34 pm34 an34 cd34 ct34), sl34⟩)
    (e_worth_of : PySem.W.codeIn K cd34 "worth_of" = true) (k_worth_of : PySem.W.keepIn K (.ref f_worth_of) = true)
    (a_most_rooms : PySem.W.nsIn K mainGlobals "most_rooms" = some (some (.ref f_most_rooms)))
    (l_most_rooms : K.lookup f_most_rooms = some ⟨oc35, od35, .func (PySem.W.fnOf "most_rooms" "most_rooms" (defArgs s_most_rooms) (defBody s_most_rooms) (defScope s_most_rooms) .none kV35 dc35 pm35 an35 cd35 ct35), sl35⟩)
    (e_most_rooms : PySem.W.codeIn K cd35 "most_rooms" = true) (k_most_rooms : PySem.W.keepIn K (.ref f_most_rooms) = true)
    (a_most_worth : PySem.W.nsIn K mainGlobals "most_worth" = some (some (.ref f_most_worth)))
    (l_most_worth : K.lookup f_most_worth = some ⟨oc36, od36, .func (PySem.W.fnOf "most_worth" "most_worth" (defArgs s_most_worth) (defBody s_most_worth) (defScope s_most_worth) .none kV36 dc36 pm36 an36 cd36 ct36), sl36⟩)
    (e_most_worth : PySem.W.codeIn K cd36 "most_worth" = true) (k_most_worth : PySem.W.keepIn K (.ref f_most_worth) = true)
    (a_all_of : PySem.W.nsIn K mainGlobals "all_of" = some (some (.ref f_all_of)))
    (l_all_of : K.lookup f_all_of = some ⟨oc37, od37, .func (PySem.W.fnOf "all_of" "all_of" (defArgs s_all_of) (defBody s_all_of) (defScope s_all_of) .none kV37 dc37 pm37 an37 cd37 ct37), sl37⟩)
    (e_all_of : PySem.W.codeIn K cd37 "all_of" = true) (k_all_of : PySem.W.keepIn K (.ref f_all_of) = true)
    (a_is_kind_rows : PySem.W.nsIn K mainGlobals "is_kind_rows" = some (some (.ref f_is_kind_rows)))
    (l_is_kind_rows : K.lookup f_is_kind_rows = some ⟨oc38, od38, .func (PySem.W.fnOf "is_kind" "is_kind" (defArgs s_is_kind_rows) (defBody s_is_kind_rows) (defScope s_is_kind_rows) .none kV38 dc38 pm38 an38 cd38 ct38), sl38⟩)
    (e_is_kind_rows : PySem.W.codeIn K cd38 "is_kind" = true) (k_is_kind_rows : PySem.W.keepIn K (.ref f_is_kind_rows) = true)
    (a_is_number : PySem.W.nsIn K mainGlobals "is_number" = some (some (.ref f_is_number)))
    (l_is_number : K.lookup f_is_number = some ⟨oc39, od39, .func (PySem.W.fnOf "is_number" "is_number" (defArgs s_is_number) (defBody s_is_number) (defScope s_is_number) .none kV39 dc39 pm39 an39 cd39 ct39), sl39⟩)
    (e_is_number : PySem.W.codeIn K cd39 "is_number" = true) (k_is_number : PySem.W.keepIn K (.ref f_is_number) = true)
    (a_keys_asked : PySem.W.nsIn K mainGlobals "keys_asked" = some (some (.ref f_keys_asked)))
    (l_keys_asked : K.lookup f_keys_asked = some ⟨oc40, od40, .func (PySem.W.fnOf "keys_asked" "keys_asked" (defArgs s_keys_asked) (defBody s_keys_asked) (defScope s_keys_asked) .none kV40 dc40 pm40 an40 cd40 ct40), sl40⟩)
    (e_keys_asked : PySem.W.codeIn K cd40 "keys_asked" = true) (k_keys_asked : PySem.W.keepIn K (.ref f_keys_asked) = true)
    (a_locks_asked : PySem.W.nsIn K mainGlobals "locks_asked" = some (some (.ref f_locks_asked)))
    (l_locks_asked : K.lookup f_locks_asked = some ⟨oc41, od41, .func (PySem.W.fnOf "locks_asked" "locks_asked" (defArgs s_locks_asked) (defBody s_locks_asked) (defScope s_locks_asked) .none kV41 dc41 pm41 an41 cd41 ct41), sl41⟩)
    (e_locks_asked : PySem.W.codeIn K cd41 "locks_asked" = true) (k_locks_asked : PySem.W.keepIn K (.ref f_locks_asked) = true)
    (a_joined_words : PySem.W.nsIn K mainGlobals "joined_words" = some (some (.ref f_joined_words)))
    (l_joined_words : K.lookup f_joined_words = some ⟨oc42, od42, .func (PySem.W.fnOf "joined_words" "joined_words" (defArgs s_joined_words) (defBody s_joined_words) (defScope s_joined_words) .none kV42 dc42 pm42 an42 cd42 ct42), sl42⟩)
    (e_joined_words : PySem.W.codeIn K cd42 "joined_words" = true) (k_joined_words : PySem.W.keepIn K (.ref f_joined_words) = true)
    (a_words_asked : PySem.W.nsIn K mainGlobals "words_asked" = some (some (.ref f_words_asked)))
    (l_words_asked : K.lookup f_words_asked = some ⟨oc43, od43, .func (PySem.W.fnOf "words_asked" "words_asked" (defArgs s_words_asked) (defBody s_words_asked) (defScope s_words_asked) .none kV43 dc43 pm43 an43 cd43 ct43), sl43⟩)
    (e_words_asked : PySem.W.codeIn K cd43 "words_asked" = true) (k_words_asked : PySem.W.keepIn K (.ref f_words_asked) = true)
    (a_show_keys : PySem.W.nsIn K mainGlobals "show_keys" = some (some (.ref f_show_keys)))
    (l_show_keys : K.lookup f_show_keys = some ⟨oc44, od44, .func (PySem.W.fnOf "show_keys" "show_keys" (defArgs s_show_keys) (defBody s_show_keys) (defScope s_show_keys) .none kV44 dc44 pm44 an44 cd44 ct44), sl44⟩)
    (e_show_keys : PySem.W.codeIn K cd44 "show_keys" = true) (k_show_keys : PySem.W.keepIn K (.ref f_show_keys) = true)
    (a_show_room : PySem.W.nsIn K mainGlobals "show_room" = some (some (.ref f_show_room)))
    (l_show_room : K.lookup f_show_room = some ⟨oc45, od45, .func (PySem.W.fnOf "show_room" "show_room" (defArgs s_show_room) (defBody s_show_room) (defScope s_show_room) .none kV45 dc45 pm45 an45 cd45 ct45), sl45⟩)
    (e_show_room : PySem.W.codeIn K cd45 "show_room" = true) (k_show_room : PySem.W.keepIn K (.ref f_show_room) = true)
    (a_show_house : PySem.W.nsIn K mainGlobals "show_house" = some (some (.ref f_show_house)))
    (l_show_house : K.lookup f_show_house = some ⟨oc46, od46, .func (PySem.W.fnOf "show_house" "show_house" (defArgs s_show_house) (defBody s_show_house) (defScope s_show_house) .none kV46 dc46 pm46 an46 cd46 ct46), sl46⟩)
    (e_show_house : PySem.W.codeIn K cd46 "show_house" = true) (k_show_house : PySem.W.keepIn K (.ref f_show_house) = true)
    (a_opening_words : PySem.W.nsIn K mainGlobals "opening_words" = some (some (.ref f_opening_words)))
    (l_opening_words : K.lookup f_opening_words = some ⟨oc47, od47, .func (PySem.W.fnOf "opening_words" "opening_words" (defArgs s_opening_words) (defBody s_opening_words) (defScope s_opening_words) .none kV47 dc47 pm47 an47 cd47 ct47), sl47⟩)
    (e_opening_words : PySem.W.codeIn K cd47 "opening_words" = true) (k_opening_words : PySem.W.keepIn K (.ref f_opening_words) = true)
    (a_law_cell_at : PySem.W.nsIn K mainGlobals "_law_cell_at" = some (some (.ref f_law_cell_at)))
    (l_law_cell_at : K.lookup f_law_cell_at = some ⟨oc48, od48, .func (PySem.W.fnOf "_law_cell_at" "_law_cell_at" (defArgs s_law_cell_at) (defBody s_law_cell_at) (defScope s_law_cell_at) .none kV48 dc48 pm48 an48 cd48 ct48), sl48⟩)
    (e_law_cell_at : PySem.W.codeIn K cd48 "_law_cell_at" = true) (k_law_cell_at : PySem.W.keepIn K (.ref f_law_cell_at) = true)
    (a_law_numbers : PySem.W.nsIn K mainGlobals "_law_numbers" = some (some (.ref f_law_numbers)))
    (l_law_numbers : K.lookup f_law_numbers = some ⟨oc49, od49, .func (PySem.W.fnOf "_law_numbers" "_law_numbers" (defArgs s_law_numbers) (defBody s_law_numbers) (defScope s_law_numbers) .none kV49 dc49 pm49 an49 cd49 ct49), sl49⟩)
    (e_law_numbers : PySem.W.codeIn K cd49 "_law_numbers" = true) (k_law_numbers : PySem.W.keepIn K (.ref f_law_numbers) = true)
    (a_law_deck : PySem.W.nsIn K mainGlobals "_law_deck" = some (some (.ref f_law_deck)))
    (l_law_deck : K.lookup f_law_deck = some ⟨oc50, od50, .func (PySem.W.fnOf "_law_deck" "_law_deck" (defArgs s_law_deck) (defBody s_law_deck) (defScope s_law_deck) .none kV50 dc50 pm50 an50 cd50 ct50), sl50⟩)
    (e_law_deck : PySem.W.codeIn K cd50 "_law_deck" = true) (k_law_deck : PySem.W.keepIn K (.ref f_law_deck) = true)
    (a_law_take : PySem.W.nsIn K mainGlobals "_law_take" = some (some (.ref f_law_take)))
    (l_law_take : K.lookup f_law_take = some ⟨oc51, od51, .func (PySem.W.fnOf "_law_take" "_law_take" (defArgs s_law_take) (defBody s_law_take) (defScope s_law_take) .none kV51 dc51 pm51 an51 cd51 ct51), sl51⟩)
    (e_law_take : PySem.W.codeIn K cd51 "_law_take" = true) (k_law_take : PySem.W.keepIn K (.ref f_law_take) = true)
    (a_law_kind : PySem.W.nsIn K mainGlobals "_law_kind" = some (some (.ref f_law_kind)))
    (l_law_kind : K.lookup f_law_kind = some ⟨oc52, od52, .func (PySem.W.fnOf "_law_kind" "_law_kind" (defArgs s_law_kind) (defBody s_law_kind) (defScope s_law_kind) .none kV52 dc52 pm52 an52 cd52 ct52), sl52⟩)
    (e_law_kind : PySem.W.codeIn K cd52 "_law_kind" = true) (k_law_kind : PySem.W.keepIn K (.ref f_law_kind) = true)
    (a_law_keys : PySem.W.nsIn K mainGlobals "_law_keys" = some (some (.ref f_law_keys)))
    (l_law_keys : K.lookup f_law_keys = some ⟨oc53, od53, .func (PySem.W.fnOf "_law_keys" "_law_keys" (defArgs s_law_keys) (defBody s_law_keys) (defScope s_law_keys) .none kV53 dc53 pm53 an53 cd53 ct53), sl53⟩)
    (e_law_keys : PySem.W.codeIn K cd53 "_law_keys" = true) (k_law_keys : PySem.W.keepIn K (.ref f_law_keys) = true)
    (a_law_house : PySem.W.nsIn K mainGlobals "_law_house" = some (some (.ref f_law_house)))
    (l_law_house : K.lookup f_law_house = some ⟨oc54, od54, .func (PySem.W.fnOf "_law_house" "_law_house" (defArgs s_law_house) (defBody s_law_house) (defScope s_law_house) .none kV54 dc54 pm54 an54 cd54 ct54), sl54⟩)
    (e_law_house : PySem.W.codeIn K cd54 "_law_house" = true) (k_law_house : PySem.W.keepIn K (.ref f_law_house) = true)
    (a_law_keys_written : PySem.W.nsIn K mainGlobals "_law_keys_written" = some (some (.ref f_law_keys_written)))
    (l_law_keys_written : K.lookup f_law_keys_written = some ⟨oc55, od55, .func (PySem.W.fnOf "_law_keys_written" "_law_keys_written" (defArgs s_law_keys_written) (defBody s_law_keys_written) (defScope s_law_keys_written) .none kV55 dc55 pm55 an55 cd55 ct55), sl55⟩)
    (e_law_keys_written : PySem.W.codeIn K cd55 "_law_keys_written" = true) (k_law_keys_written : PySem.W.keepIn K (.ref f_law_keys_written) = true)
    (a_law_lines : PySem.W.nsIn K mainGlobals "_law_lines" = some (some (.ref f_law_lines)))
    (l_law_lines : K.lookup f_law_lines = some ⟨oc56, od56, .func (PySem.W.fnOf "_law_lines" "_law_lines" (defArgs s_law_lines) (defBody s_law_lines) (defScope s_law_lines) .none kV56 dc56 pm56 an56 cd56 ct56), sl56⟩)
    (e_law_lines : PySem.W.codeIn K cd56 "_law_lines" = true) (k_law_lines : PySem.W.keepIn K (.ref f_law_lines) = true)
    (a_law_hand : PySem.W.nsIn K mainGlobals "_law_hand" = some (some (.ref f_law_hand)))
    (l_law_hand : K.lookup f_law_hand = some ⟨oc57, od57, .func (PySem.W.fnOf "_law_hand" "_law_hand" (defArgs s_law_hand) (defBody s_law_hand) (defScope s_law_hand) .none kV57 dc57 pm57 an57 cd57 ct57), sl57⟩)
    (e_law_hand : PySem.W.codeIn K cd57 "_law_hand" = true) (k_law_hand : PySem.W.keepIn K (.ref f_law_hand) = true)
    (a_law_next : PySem.W.nsIn K mainGlobals "_law_next" = some (some (.ref f_law_next)))
    (l_law_next : K.lookup f_law_next = some ⟨oc58, od58, .func (PySem.W.fnOf "_law_next" "_law_next" (defArgs s_law_next) (defBody s_law_next) (defScope s_law_next) .none kV58 dc58 pm58 an58 cd58 ct58), sl58⟩)
    (e_law_next : PySem.W.codeIn K cd58 "_law_next" = true) (k_law_next : PySem.W.keepIn K (.ref f_law_next) = true)
    (a_law_words : PySem.W.nsIn K mainGlobals "_law_words" = some (some (.ref f_law_words)))
    (l_law_words : K.lookup f_law_words = some ⟨oc59, od59, .func (PySem.W.fnOf "_law_words" "_law_words" (defArgs s_law_words) (defBody s_law_words) (defScope s_law_words) .none kV59 dc59 pm59 an59 cd59 ct59), sl59⟩)
    (e_law_words : PySem.W.codeIn K cd59 "_law_words" = true) (k_law_words : PySem.W.keepIn K (.ref f_law_words) = true)
    (a_law_said : PySem.W.nsIn K mainGlobals "_law_said" = some (some (.ref f_law_said)))
    (l_law_said : K.lookup f_law_said = some ⟨oc60, od60, .func (PySem.W.fnOf "_law_said" "_law_said" (defArgs s_law_said) (defBody s_law_said) (defScope s_law_said) .none kV60 dc60 pm60 an60 cd60 ct60), sl60⟩)
    (e_law_said : PySem.W.codeIn K cd60 "_law_said" = true) (k_law_said : PySem.W.keepIn K (.ref f_law_said) = true)
    (a_law_house_rows : PySem.W.nsIn K mainGlobals "_law_house_rows" = some (some (.ref f_law_house_rows)))
    (l_law_house_rows : K.lookup f_law_house_rows = some ⟨oc61, od61, .func (PySem.W.fnOf "_law_house_rows" "_law_house_rows" (defArgs s_law_house_rows) (defBody s_law_house_rows) (defScope s_law_house_rows) .none kV61 dc61 pm61 an61 cd61 ct61), sl61⟩)
    (e_law_house_rows : PySem.W.codeIn K cd61 "_law_house_rows" = true) (k_law_house_rows : PySem.W.keepIn K (.ref f_law_house_rows) = true)
    (a_law_row : PySem.W.nsIn K mainGlobals "_law_row" = some (some (.ref f_law_row)))
    (l_law_row : K.lookup f_law_row = some ⟨oc62, od62, .func (PySem.W.fnOf "_law_row" "_law_row" (defArgs s_law_row) (defBody s_law_row) (defScope s_law_row) .none kV62 dc62 pm62 an62 cd62 ct62), sl62⟩)
    (e_law_row : PySem.W.codeIn K cd62 "_law_row" = true) (k_law_row : PySem.W.keepIn K (.ref f_law_row) = true)
    (a_law_as_kept : PySem.W.nsIn K mainGlobals "_law_as_kept" = some (some (.ref f_law_as_kept)))
    (l_law_as_kept : K.lookup f_law_as_kept = some ⟨oc63, od63, .func (PySem.W.fnOf "_law_as_kept" "_law_as_kept" (defArgs s_law_as_kept) (defBody s_law_as_kept) (defScope s_law_as_kept) .none kV63 dc63 pm63 an63 cd63 ct63), sl63⟩)
    (e_law_as_kept : PySem.W.codeIn K cd63 "_law_as_kept" = true) (k_law_as_kept : PySem.W.keepIn K (.ref f_law_as_kept) = true)
    (a_law : PySem.W.nsIn K mainGlobals "law" = some (some (.ref f_law)))
    (l_law : K.lookup f_law = some ⟨oc64, od64, .func (PySem.W.fnOf "law" "law" (defArgs s_law) (defBody s_law) (defScope s_law) .none kV64 dc64 pm64 an64 cd64 ct64), sl64⟩)
    (e_law : PySem.W.codeIn K cd64 "law" = true) (k_law : PySem.W.keepIn K (.ref f_law) = true)
    (e_Opened : PySem.W.nsIn K mainGlobals "Opened" = some (some (.ref ow_Opened)))
    (cg_Opened : PySem.W.plainGet K ow_Opened Str.empty = true)
    (ch_Opened : PySem.W.hasDictIn K ow_Opened = true)
    (co_Opened : PySem.W.plainOver K ow_Opened = true)
    (cs_Opened : PySem.W.findIn K (.ref ow_Opened) "__setattr__" = some (some (.builtin "object.__setattr__")))
    (cm_Opened : PySem.W.makesIn K ow_Opened = true)
    (ck_Opened : PySem.W.keepIn K (.ref ow_Opened) = true)
    (na_Opened_locks : PySem.W.findIn K (.ref ow_Opened) "locks" = some none)
    (na_Opened_within : PySem.W.findIn K (.ref ow_Opened) "within" = some none)
    (na_Opened_many : PySem.W.findIn K (.ref ow_Opened) "many" = some none)
    (na_Opened_all_rooms : PySem.W.findIn K (.ref ow_Opened) "all_rooms" = some none)
    (na_Opened_hands : PySem.W.findIn K (.ref ow_Opened) "hands" = some none)
    (na_Opened_goings : PySem.W.findIn K (.ref ow_Opened) "goings" = some none)
    (na_Opened_ends : PySem.W.findIn K (.ref ow_Opened) "ends" = some none)
    (i_Opened_init : PySem.W.findIn K (.ref ow_Opened) "__init__" = some (some (.ref f_Opened_init))) (n_Opened_init : PySem.W.isFn K (.ref f_Opened_init) = true)
    (l_Opened_init : K.lookup f_Opened_init = some ⟨oc65, od65, .func (PySem.W.fnOf "__init__" "Opened.__init__" (defArgs s_Opened_init) (defBody s_Opened_init) (defScope s_Opened_init) .none kV65 dc65 pm65 an65 cd65 ct65), sl65⟩)
    (e_Opened_init : PySem.W.codeIn K cd65 "Opened.__init__" = true) (k_Opened_init : PySem.W.keepIn K (.ref f_Opened_init) = true)
    (i_Opened_hand_at : PySem.W.findIn K (.ref ow_Opened) "hand_at" = some (some (.ref f_Opened_hand_at))) (n_Opened_hand_at : PySem.W.isFn K (.ref f_Opened_hand_at) = true)
    (l_Opened_hand_at : K.lookup f_Opened_hand_at = some ⟨oc66, od66, .func (PySem.W.fnOf "hand_at" "Opened.hand_at" (defArgs s_Opened_hand_at) (defBody s_Opened_hand_at) (defScope s_Opened_hand_at) .none kV66 dc66 pm66 an66 cd66 ct66), sl66⟩)
    (e_Opened_hand_at : PySem.W.codeIn K cd66 "Opened.hand_at" = true) (k_Opened_hand_at : PySem.W.keepIn K (.ref f_Opened_hand_at) = true)
    (i_Opened_next_at : PySem.W.findIn K (.ref ow_Opened) "next_at" = some (some (.ref f_Opened_next_at))) (n_Opened_next_at : PySem.W.isFn K (.ref f_Opened_next_at) = true)
    (l_Opened_next_at : K.lookup f_Opened_next_at = some ⟨oc67, od67, .func (PySem.W.fnOf "next_at" "Opened.next_at" (defArgs s_Opened_next_at) (defBody s_Opened_next_at) (defScope s_Opened_next_at) .none kV67 dc67 pm67 an67 cd67 ct67), sl67⟩)
    (e_Opened_next_at : PySem.W.codeIn K cd67 "Opened.next_at" = true) (k_Opened_next_at : PySem.W.keepIn K (.ref f_Opened_next_at) = true)
    (i_Opened_to_all : PySem.W.findIn K (.ref ow_Opened) "to_all" = some (some (.ref f_Opened_to_all))) (n_Opened_to_all : PySem.W.isFn K (.ref f_Opened_to_all) = true)
    (l_Opened_to_all : K.lookup f_Opened_to_all = some ⟨oc68, od68, .func (PySem.W.fnOf "to_all" "Opened.to_all" (defArgs s_Opened_to_all) (defBody s_Opened_to_all) (defScope s_Opened_to_all) .none kV68 dc68 pm68 an68 cd68 ct68), sl68⟩)
    (e_Opened_to_all : PySem.W.codeIn K cd68 "Opened.to_all" = true) (k_Opened_to_all : PySem.W.keepIn K (.ref f_Opened_to_all) = true)
    (e_Desk : PySem.W.nsIn K mainGlobals "Desk" = some (some (.ref ow_Desk)))
    (cg_Desk : PySem.W.plainGet K ow_Desk Str.empty = true)
    (ch_Desk : PySem.W.hasDictIn K ow_Desk = true)
    (co_Desk : PySem.W.plainOver K ow_Desk = true)
    (cs_Desk : PySem.W.findIn K (.ref ow_Desk) "__setattr__" = some (some (.builtin "object.__setattr__")))
    (cm_Desk : PySem.W.makesIn K ow_Desk = true)
    (ck_Desk : PySem.W.keepIn K (.ref ow_Desk) = true)
    (na_Desk_first_keys : PySem.W.findIn K (.ref ow_Desk) "first_keys" = some none)
    (na_Desk_rooms_here : PySem.W.findIn K (.ref ow_Desk) "rooms_here" = some none)
    (na_Desk_worths : PySem.W.findIn K (.ref ow_Desk) "worths" = some none)
    (na_Desk_gone_here : PySem.W.findIn K (.ref ow_Desk) "gone_here" = some none)
    (i_Desk_init : PySem.W.findIn K (.ref ow_Desk) "__init__" = some (some (.ref f_Desk_init))) (n_Desk_init : PySem.W.isFn K (.ref f_Desk_init) = true)
    (l_Desk_init : K.lookup f_Desk_init = some ⟨oc69, od69, .func (PySem.W.fnOf "__init__" "Desk.__init__" (defArgs s_Desk_init) (defBody s_Desk_init) (defScope s_Desk_init) .none kV69 dc69 pm69 an69 cd69 ct69), sl69⟩)
    (e_Desk_init : PySem.W.codeIn K cd69 "Desk.__init__" = true) (k_Desk_init : PySem.W.keepIn K (.ref f_Desk_init) = true)
    (i_Desk_begin_anew : PySem.W.findIn K (.ref ow_Desk) "begin_anew" = some (some (.ref f_Desk_begin_anew))) (n_Desk_begin_anew : PySem.W.isFn K (.ref f_Desk_begin_anew) = true)
    (l_Desk_begin_anew : K.lookup f_Desk_begin_anew = some ⟨oc70, od70, .func (PySem.W.fnOf "begin_anew" "Desk.begin_anew" (defArgs s_Desk_begin_anew) (defBody s_Desk_begin_anew) (defScope s_Desk_begin_anew) .none kV70 dc70 pm70 an70 cd70 ct70), sl70⟩)
    (e_Desk_begin_anew : PySem.W.codeIn K cd70 "Desk.begin_anew" = true) (k_Desk_begin_anew : PySem.W.keepIn K (.ref f_Desk_begin_anew) = true)
    (i_Desk_house : PySem.W.findIn K (.ref ow_Desk) "house" = some (some (.ref f_Desk_house))) (n_Desk_house : PySem.W.isFn K (.ref f_Desk_house) = true)
    (l_Desk_house : K.lookup f_Desk_house = some ⟨oc71, od71, .func (PySem.W.fnOf "house" "Desk.house" (defArgs s_Desk_house) (defBody s_Desk_house) (defScope s_Desk_house) .none kV71 dc71 pm71 an71 cd71 ct71), sl71⟩)
    (e_Desk_house : PySem.W.codeIn K cd71 "Desk.house" = true) (k_Desk_house : PySem.W.keepIn K (.ref f_Desk_house) = true)
    (i_Desk_put_room : PySem.W.findIn K (.ref ow_Desk) "put_room" = some (some (.ref f_Desk_put_room))) (n_Desk_put_room : PySem.W.isFn K (.ref f_Desk_put_room) = true)
    (l_Desk_put_room : K.lookup f_Desk_put_room = some ⟨oc72, od72, .func (PySem.W.fnOf "put_room" "Desk.put_room" (defArgs s_Desk_put_room) (defBody s_Desk_put_room) (defScope s_Desk_put_room) .none kV72 dc72 pm72 an72 cd72 ct72), sl72⟩)
    (e_Desk_put_room : PySem.W.codeIn K cd72 "Desk.put_room" = true) (k_Desk_put_room : PySem.W.keepIn K (.ref f_Desk_put_room) = true)
    (i_Desk_changed : PySem.W.findIn K (.ref ow_Desk) "changed" = some (some (.ref f_Desk_changed))) (n_Desk_changed : PySem.W.isFn K (.ref f_Desk_changed) = true)
    (l_Desk_changed : K.lookup f_Desk_changed = some ⟨oc73, od73, .func (PySem.W.fnOf "changed" "Desk.changed" (defArgs s_Desk_changed) (defBody s_Desk_changed) (defScope s_Desk_changed) .none kV73 dc73 pm73 an73 cd73 ct73), sl73⟩)
    (e_Desk_changed : PySem.W.codeIn K cd73 "Desk.changed" = true) (k_Desk_changed : PySem.W.keepIn K (.ref f_Desk_changed) = true)
    (i_Desk_stands : PySem.W.findIn K (.ref ow_Desk) "stands" = some (some (.ref f_Desk_stands))) (n_Desk_stands : PySem.W.isFn K (.ref f_Desk_stands) = true)
    (l_Desk_stands : K.lookup f_Desk_stands = some ⟨oc74, od74, .func (PySem.W.fnOf "stands" "Desk.stands" (defArgs s_Desk_stands) (defBody s_Desk_stands) (defScope s_Desk_stands) .none kV74 dc74 pm74 an74 cd74 ct74), sl74⟩)
    (e_Desk_stands : PySem.W.codeIn K cd74 "Desk.stands" = true) (k_Desk_stands : PySem.W.keepIn K (.ref f_Desk_stands) = true)
    (i_Desk_told : PySem.W.findIn K (.ref ow_Desk) "told" = some (some (.ref f_Desk_told))) (n_Desk_told : PySem.W.isFn K (.ref f_Desk_told) = true)
    (l_Desk_told : K.lookup f_Desk_told = some ⟨oc75, od75, .func (PySem.W.fnOf "told" "Desk.told" (defArgs s_Desk_told) (defBody s_Desk_told) (defScope s_Desk_told) .none kV75 dc75 pm75 an75 cd75 ct75), sl75⟩)
    (e_Desk_told : PySem.W.codeIn K cd75 "Desk.told" = true) (k_Desk_told : PySem.W.keepIn K (.ref f_Desk_told) = true)
    (i_Desk_say : PySem.W.findIn K (.ref ow_Desk) "say" = some (some (.ref f_Desk_say))) (n_Desk_say : PySem.W.isFn K (.ref f_Desk_say) = true)
    (l_Desk_say : K.lookup f_Desk_say = some ⟨oc76, od76, .func (PySem.W.fnOf "say" "Desk.say" (defArgs s_Desk_say) (defBody s_Desk_say) (defScope s_Desk_say) .none kV76 dc76 pm76 an76 cd76 ct76), sl76⟩)
    (e_Desk_say : PySem.W.codeIn K cd76 "Desk.say" = true) (k_Desk_say : PySem.W.keepIn K (.ref f_Desk_say) = true)
    (z_isinstance : PySem.W.nsIn K mainGlobals "isinstance" = some none)
    (z_str : PySem.W.nsIn K mainGlobals "str" = some none)
    (z_len : PySem.W.nsIn K mainGlobals "len" = some none)
    (z_list : PySem.W.nsIn K mainGlobals "list" = some none)
    (z_tuple : PySem.W.nsIn K mainGlobals "tuple" = some none)
    (z_sorted : PySem.W.nsIn K mainGlobals "sorted" = some none)
    (z_enumerate : PySem.W.nsIn K mainGlobals "enumerate" = some none)
    (z_bool : PySem.W.nsIn K mainGlobals "bool" = some none)
    (z_int : PySem.W.nsIn K mainGlobals "int" = some none)
    (z_dict : PySem.W.nsIn K mainGlobals "dict" = some none)
    (z_set : PySem.W.nsIn K mainGlobals "set" = some none)
    (z_range : PySem.W.nsIn K mainGlobals "range" = some none)
    (z_sum : PySem.W.nsIn K mainGlobals "sum" = some none)
    (z_max : PySem.W.nsIn K mainGlobals "max" = some none)
    (z_min : PySem.W.nsIn K mainGlobals "min" = some none)
    (z_ValueError : PySem.W.nsIn K mainGlobals "ValueError" = some none)
    (n_LETTERS_houses : PySem.W.nsIn K mainGlobals "LETTERS_houses" = some (some (.str "abcdefghijklmnopqrstuvwxyz" t_LETTERS_houses)))
    (n_LONGEST_KIND : PySem.W.nsIn K mainGlobals "LONGEST_KIND" = some (some (.int 4 t_LONGEST_KIND)))
    (n_MOST_LOCKS_houses : PySem.W.nsIn K mainGlobals "MOST_LOCKS_houses" = some (some (.int 4 t_MOST_LOCKS_houses)))
    (n_MOST_ROOMS_orders : PySem.W.nsIn K mainGlobals "MOST_ROOMS_orders" = some (some (.int 12 t_MOST_ROOMS_orders)))
    (n_FIGURES : PySem.W.nsIn K mainGlobals "FIGURES" = some (some (.str "0123456789" t_FIGURES)))
    (n_LETTERS_rows : PySem.W.nsIn K mainGlobals "LETTERS_rows" = some (some (.str "abcdefghijklmnopqrstuvwxyz" t_LETTERS_rows)))
    (n_MOST_LETTERS : PySem.W.nsIn K mainGlobals "MOST_LETTERS" = some (some (.int 4 t_MOST_LETTERS)))
    (n_MOST_LOCKS_rows : PySem.W.nsIn K mainGlobals "MOST_LOCKS_rows" = some (some (.int 4 t_MOST_LOCKS_rows)))
    (n_NUMBERS : PySem.W.nsIn K mainGlobals "NUMBERS" = some (some (.ref dn_NUMBERS)))
    (dw_NUMBERS : He.dicW K dn_NUMBERS = some (He.keysIn w.params ["worth", "open", "nth", "back", "new", "hand", "next", "gone", "all", "first", "buy", "orders", "most", "best", "show", "rooms"]))
    (v_NUMBERS_0 : PySem.W.nsIn K dn_NUMBERS "worth" = some (some (.int 2 tk_NUMBERS_0)))
    (v_NUMBERS_1 : PySem.W.nsIn K dn_NUMBERS "open" = some (some (.int 1 tk_NUMBERS_1)))
    (v_NUMBERS_2 : PySem.W.nsIn K dn_NUMBERS "nth" = some (some (.int 1 tk_NUMBERS_2)))
    (v_NUMBERS_3 : PySem.W.nsIn K dn_NUMBERS "back" = some (some (.int 0 tk_NUMBERS_3)))
    (v_NUMBERS_4 : PySem.W.nsIn K dn_NUMBERS "new" = some (some (.int 0 tk_NUMBERS_4)))
    (v_NUMBERS_5 : PySem.W.nsIn K dn_NUMBERS "hand" = some (some (.int 0 tk_NUMBERS_5)))
    (v_NUMBERS_6 : PySem.W.nsIn K dn_NUMBERS "next" = some (some (.int 0 tk_NUMBERS_6)))
    (v_NUMBERS_7 : PySem.W.nsIn K dn_NUMBERS "gone" = some (some (.int 0 tk_NUMBERS_7)))
    (v_NUMBERS_8 : PySem.W.nsIn K dn_NUMBERS "all" = some (some (.int 0 tk_NUMBERS_8)))
    (v_NUMBERS_9 : PySem.W.nsIn K dn_NUMBERS "first" = some (some (.int 0 tk_NUMBERS_9)))
    (v_NUMBERS_10 : PySem.W.nsIn K dn_NUMBERS "buy" = some (some (.int 0 tk_NUMBERS_10)))
    (v_NUMBERS_11 : PySem.W.nsIn K dn_NUMBERS "orders" = some (some (.int 0 tk_NUMBERS_11)))
    (v_NUMBERS_12 : PySem.W.nsIn K dn_NUMBERS "most" = some (some (.int 0 tk_NUMBERS_12)))
    (v_NUMBERS_13 : PySem.W.nsIn K dn_NUMBERS "best" = some (some (.int 0 tk_NUMBERS_13)))
    (v_NUMBERS_14 : PySem.W.nsIn K dn_NUMBERS "show" = some (some (.int 0 tk_NUMBERS_14)))
    (v_NUMBERS_15 : PySem.W.nsIn K dn_NUMBERS "rooms" = some (some (.int 0 tk_NUMBERS_15)))
    (n_MOST_ROOMS_desk : PySem.W.nsIn K mainGlobals "MOST_ROOMS_desk" = some (some (.int 12 t_MOST_ROOMS_desk)))
    (a_KeyroomError : PySem.W.nsIn K mainGlobals "KeyroomError" = some (some (.ref e_KeyroomError)))
    (a_NoHouse : PySem.W.nsIn K mainGlobals "NoHouse" = some (some (.ref e_NoHouse)))
    (a_NoPlain : PySem.W.nsIn K mainGlobals "NoPlain" = some (some (.ref e_NoPlain)))
    (a_NoOrder : PySem.W.nsIn K mainGlobals "NoOrder" = some (some (.ref e_NoOrder)))
    (a_NoNumber : PySem.W.nsIn K mainGlobals "NoNumber" = some (some (.ref e_NoNumber)))
    (a_NoKind : PySem.W.nsIn K mainGlobals "NoKind" = some (some (.ref e_NoKind)))
    (a_TooMany : PySem.W.nsIn K mainGlobals "TooMany" = some (some (.ref e_TooMany)))
    (a_NoText : PySem.W.nsIn K mainGlobals "NoText" = some (some (.ref e_NoText)))
    (a_NoRow : PySem.W.nsIn K mainGlobals "NoRow" = some (some (.ref e_NoRow)))
    (a_NoStep : PySem.W.nsIn K mainGlobals "NoStep" = some (some (.ref e_NoStep)))
    (w_n : PySem.W.specialIn K (.builtin "object.__class__") "__get__" = some (some (.builtin "getset_descriptor.__get__")))
    (w_t : PySem.W.takesIn K (.builtin "object.__class__") = some true)
    (xk_TooMany : PySem.W.keepIn K (.ref e_TooMany) = true)
    (xs_TooMany : PySem.W.subIn K (.ref e_TooMany) (.type "BaseException") = some true)
    (xt_TooMany : PySem.W.typeIn K (.ref e_TooMany) = some (.type "type"))
    (xi_TooMany : PySem.W.isClsIn K e_TooMany = true)
    (xg_TooMany : PySem.W.findIn K (.ref e_TooMany) "__getattribute__" = some (some (.builtin "BaseException.__getattribute__")))
    (xa_TooMany : PySem.W.findIn K (.ref e_TooMany) "__getattr__" = some none)
    (xd_TooMany : PySem.W.hasDictIn K e_TooMany = true)
    (xc_TooMany : PySem.W.findIn K (.ref e_TooMany) "__class__" = some (some (.builtin "object.__class__")))
    (xm_TooMany : PySem.W.mroIn K e_TooMany (.type "object") = some true)
    (xq_TooMany : PySem.W.excIn K e_TooMany [.type "ValueError", .type "Exception", .type "BaseException", .type "object"] "ValueError.__new__" = true)
    (xk_NoStep : PySem.W.keepIn K (.ref e_NoStep) = true)
    (xs_NoStep : PySem.W.subIn K (.ref e_NoStep) (.type "BaseException") = some true)
    (xt_NoStep : PySem.W.typeIn K (.ref e_NoStep) = some (.type "type"))
    (xi_NoStep : PySem.W.isClsIn K e_NoStep = true)
    (xg_NoStep : PySem.W.findIn K (.ref e_NoStep) "__getattribute__" = some (some (.builtin "BaseException.__getattribute__")))
    (xa_NoStep : PySem.W.findIn K (.ref e_NoStep) "__getattr__" = some none)
    (xd_NoStep : PySem.W.hasDictIn K e_NoStep = true)
    (xc_NoStep : PySem.W.findIn K (.ref e_NoStep) "__class__" = some (some (.builtin "object.__class__")))
    (xm_NoStep : PySem.W.mroIn K e_NoStep (.type "object") = some true)
    (ns_NoRow : PySem.W.subIn K (.ref e_NoRow) (.type "BaseException") = some true)
    (nt_NoRow : PySem.W.typeIn K (.ref e_NoRow) = some (.type "type"))
    (ni_NoRow : PySem.W.isClsIn K e_NoRow = true)
    (u_TooMany_NoRow : PySem.W.subIn K (.ref e_TooMany) (.ref e_NoRow) = some false)
    (u_NoStep_NoRow : PySem.W.subIn K (.ref e_NoStep) (.ref e_NoRow) = some false)
    (u_TooMany_NoStep : PySem.W.subIn K (.ref e_TooMany) (.ref e_NoStep) = some false)
    (u_NoStep_NoStep : PySem.W.subIn K (.ref e_NoStep) (.ref e_NoStep) = some true)
    (ns_NoPlain : PySem.W.subIn K (.ref e_NoPlain) (.type "BaseException") = some true)
    (nt_NoPlain : PySem.W.typeIn K (.ref e_NoPlain) = some (.type "type"))
    (ni_NoPlain : PySem.W.isClsIn K e_NoPlain = true)
    (u_TooMany_NoPlain : PySem.W.subIn K (.ref e_TooMany) (.ref e_NoPlain) = some false)
    (u_NoStep_NoPlain : PySem.W.subIn K (.ref e_NoStep) (.ref e_NoPlain) = some false)
    (ns_NoHouse : PySem.W.subIn K (.ref e_NoHouse) (.type "BaseException") = some true)
    (nt_NoHouse : PySem.W.typeIn K (.ref e_NoHouse) = some (.type "type"))
    (ni_NoHouse : PySem.W.isClsIn K e_NoHouse = true)
    (u_TooMany_NoHouse : PySem.W.subIn K (.ref e_TooMany) (.ref e_NoHouse) = some false)
    (u_NoStep_NoHouse : PySem.W.subIn K (.ref e_NoStep) (.ref e_NoHouse) = some false)
    (ns_NoKind : PySem.W.subIn K (.ref e_NoKind) (.type "BaseException") = some true)
    (nt_NoKind : PySem.W.typeIn K (.ref e_NoKind) = some (.type "type"))
    (ni_NoKind : PySem.W.isClsIn K e_NoKind = true)
    (u_TooMany_NoKind : PySem.W.subIn K (.ref e_TooMany) (.ref e_NoKind) = some false)
    (u_NoStep_NoKind : PySem.W.subIn K (.ref e_NoStep) (.ref e_NoKind) = some false)
    (ns_NoOrder : PySem.W.subIn K (.ref e_NoOrder) (.type "BaseException") = some true)
    (nt_NoOrder : PySem.W.typeIn K (.ref e_NoOrder) = some (.type "type"))
    (ni_NoOrder : PySem.W.isClsIn K e_NoOrder = true)
    (u_TooMany_NoOrder : PySem.W.subIn K (.ref e_TooMany) (.ref e_NoOrder) = some false)
    (u_NoStep_NoOrder : PySem.W.subIn K (.ref e_NoStep) (.ref e_NoOrder) = some false)
    (ns_NoText : PySem.W.subIn K (.ref e_NoText) (.type "BaseException") = some true)
    (nt_NoText : PySem.W.typeIn K (.ref e_NoText) = some (.type "type"))
    (ni_NoText : PySem.W.isClsIn K e_NoText = true)
    (u_TooMany_NoText : PySem.W.subIn K (.ref e_TooMany) (.ref e_NoText) = some false)
    (u_NoStep_NoText : PySem.W.subIn K (.ref e_NoStep) (.ref e_NoText) = some false)
    (ns_NoNumber : PySem.W.subIn K (.ref e_NoNumber) (.type "BaseException") = some true)
    (nt_NoNumber : PySem.W.typeIn K (.ref e_NoNumber) = some (.type "type"))
    (ni_NoNumber : PySem.W.isClsIn K e_NoNumber = true)
    (u_TooMany_NoNumber : PySem.W.subIn K (.ref e_TooMany) (.ref e_NoNumber) = some false)
    (u_NoStep_NoNumber : PySem.W.subIn K (.ref e_NoStep) (.ref e_NoNumber) = some false)
    (u_TooMany_TooMany : PySem.W.subIn K (.ref e_TooMany) (.ref e_TooMany) = some true)
    (u_NoStep_TooMany : PySem.W.subIn K (.ref e_NoStep) (.ref e_TooMany) = some false)
    (u_TooMany_ValueError : PySem.W.subIn K (.ref e_TooMany) (.type "ValueError") = some true)
    (u_NoStep_ValueError : PySem.W.subIn K (.ref e_NoStep) (.type "ValueError") = some true)
    (ns_KeyroomError : PySem.W.subIn K (.ref e_KeyroomError) (.type "BaseException") = some true)
    (nt_KeyroomError : PySem.W.typeIn K (.ref e_KeyroomError) = some (.type "type"))
    (ni_KeyroomError : PySem.W.isClsIn K e_KeyroomError = true)
    (ne_TooMany : e_TooMany ≠ e_KeyroomError)
    (ne_NoStep : e_NoStep ≠ e_KeyroomError)
    (u_TooMany_KeyroomError : PySem.W.subIn K (.ref e_TooMany) (.ref e_KeyroomError) = some true)
    (u_NoStep_KeyroomError : PySem.W.subIn K (.ref e_NoStep) (.ref e_KeyroomError) = some true)
    (z_E : ([e_NoHouse, e_NoPlain, e_NoOrder, e_NoNumber, e_NoKind, e_TooMany, e_NoText, e_NoRow, e_NoStep] : List Addr).Nodup)
    (st_l : K.lookup e_NoStep = some (excClassObj nmS qS e_NoStep NS bsS [.ref e_KeyroomError, .type "ValueError", .type "Exception", .type "BaseException", .type "object"] true snS subS abS colS ddS m0S m1S m2S m3S m5S "ValueError.__new__"))
    (st_s : PySem.W.findIn K (.ref e_NoStep) "__setattr__" = some (some (.builtin "object.__setattr__")))
    (st_i : PySem.W.findIn K (.ref e_NoStep) "__init__" = some (some (.ref fi)))
    (st_t : PySem.W.typeIn K (.ref fi) = some (.type "function"))
    (st_n : PySem.W.findIn K (.ref e_NoStep) "at" = some none)
    (st_p : PySem.W.specialIn K (.ref e_KeyroomError) "__getattribute__" = some (some (.builtin "type.__getattribute__")))
    (st_r : PySem.W.readsIn K e_KeyroomError (.type "type") = true)
    (st_f : PySem.W.findCls K (.ref e_KeyroomError) (.type "type") "__init__" = some (.val (.builtin "ValueError.__init__")))
    (l_init : K.lookup fi = some ⟨ocI, odI, .func (PySem.W.fnOf "__init__" "NoStep.__init__" (defArgs s_NoStep_init) (defBody s_NoStep_init) (defScope s_NoStep_init) .none kVI dcI pmI anI cdI ctI), slI⟩)
    (e_init : PySem.W.codeIn K cdI "NoStep.__init__" = true)
    (k_init : PySem.W.keepIn K (.ref fi) = true)
    : ∃ fd : FuncData, (∀ (s : Shared) (v : Value), BindsTo s fd ⟨[v], []⟩ [("script", v)]) ∧ ∀ base : Heap, K.In base → base.Ns mainGlobals mg → FnOk l.prog w K mg base CX0 11 fa fd ["script"] (spLaw K) := by
  have e := hfa.symm.trans (PySem.W.mg_of X G a_law)
  cases e
  have F_is_kind_houses := fun_mk (st := s_is_kind_houses) l_is_kind_houses e_is_kind_houses k_is_kind_houses
  have b_is_kind_houses := F_is_kind_houses.binds (ps := ["thing"]) fun _ _ _ _ _ _ us hl => match us, hl with | [_], _ => rfl
  have F_are_keys := fun_mk (st := s_are_keys) l_are_keys e_are_keys k_are_keys
  have b_are_keys := F_are_keys.binds (ps := ["thing"]) fun _ _ _ _ _ _ us hl => match us, hl with | [_], _ => rfl
  have F_is_room := fun_mk (st := s_is_room) l_is_room e_is_room k_is_room
  have b_is_room := F_is_room.binds (ps := ["thing"]) fun _ _ _ _ _ _ us hl => match us, hl with | [_], _ => rfl
  have F_is_house := fun_mk (st := s_is_house) l_is_house e_is_house k_is_house
  have b_is_house := F_is_house.binds (ps := ["thing"]) fun _ _ _ _ _ _ us hl => match us, hl with | [_], _ => rfl
  have F_need_house := fun_mk (st := s_need_house) l_need_house e_need_house k_need_house
  have b_need_house := F_need_house.binds (ps := ["thing"]) fun _ _ _ _ _ _ us hl => match us, hl with | [_], _ => rfl
  have F_is_plain := fun_mk (st := s_is_plain) l_is_plain e_is_plain k_is_plain
  have b_is_plain := F_is_plain.binds (ps := ["house"]) fun _ _ _ _ _ _ us hl => match us, hl with | [_], _ => rfl
  have F_may_be_opened := fun_mk (st := s_may_be_opened) l_may_be_opened e_may_be_opened k_may_be_opened
  have b_may_be_opened := F_may_be_opened.binds (ps := ["hand", "locks"]) fun _ _ _ _ _ _ us hl => match us, hl with | [_, _], _ => rfl
  have F_walked := fun_mk (st := s_walked) l_walked e_walked k_walked
  have b_walked := F_walked.binds (ps := ["house", "order"]) fun _ _ _ _ _ _ us hl => match us, hl with | [_, _], _ => rfl
  have F_keys_behind := fun_mk (st := s_keys_behind) l_keys_behind e_keys_behind k_keys_behind
  have b_keys_behind := F_keys_behind.binds (ps := ["house", "order"]) fun _ _ _ _ _ _ us hl => match us, hl with | [_, _], _ => rfl
  have F_next_rooms := fun_mk (st := s_next_rooms) l_next_rooms e_next_rooms k_next_rooms
  have b_next_rooms := F_next_rooms.binds (ps := ["house", "order"]) fun _ _ _ _ _ _ us hl => match us, hl with | [_, _], _ => rfl
  have F_kinds_counted := fun_mk (st := s_kinds_counted) l_kinds_counted e_kinds_counted k_kinds_counted
  have b_kinds_counted := F_kinds_counted.binds (ps := ["house"]) fun _ _ _ _ _ _ us hl => match us, hl with | [_], _ => rfl
  have F_kinds_that_come := fun_mk (st := s_kinds_that_come) l_kinds_that_come e_kinds_that_come k_kinds_that_come
  have b_kinds_that_come := F_kinds_that_come.binds (ps := ["house"]) fun _ _ _ _ _ _ us hl => match us, hl with | [_], _ => rfl
  have F_rooms_that_come := fun_mk (st := s_rooms_that_come) l_rooms_that_come e_rooms_that_come k_rooms_that_come
  have b_rooms_that_come := F_rooms_that_come.binds (ps := ["house"]) fun _ _ _ _ _ _ us hl => match us, hl with | [_], _ => rfl
  have F_need_plain := fun_mk (st := s_need_plain) l_need_plain e_need_plain k_need_plain
  have b_need_plain := F_need_plain.binds (ps := ["house"]) fun _ _ _ _ _ _ us hl => match us, hl with | [_], _ => rfl
  have F_kinds_short := fun_mk (st := s_kinds_short) l_kinds_short e_kinds_short k_kinds_short
  have b_kinds_short := F_kinds_short.binds (ps := ["house"]) fun _ _ _ _ _ _ us hl => match us, hl with | [_], _ => rfl
  have F_can_all := fun_mk (st := s_can_all) l_can_all e_can_all k_can_all
  have b_can_all := F_can_all.binds (ps := ["house"]) fun _ _ _ _ _ _ us hl => match us, hl with | [_], _ => rfl
  have F_house_left := fun_mk (st := s_house_left) l_house_left e_house_left k_house_left
  have b_house_left := F_house_left.binds (ps := ["house", "hand", "left"]) fun _ _ _ _ _ _ us hl => match us, hl with | [_, _, _], _ => rfl
  have F_hand_behind := fun_mk (st := s_hand_behind) l_hand_behind e_hand_behind k_hand_behind
  have b_hand_behind := F_hand_behind.binds (ps := ["hand", "room"]) fun _ _ _ _ _ _ us hl => match us, hl with | [_, _], _ => rfl
  have F_leads_on := fun_mk (st := s_leads_on) l_leads_on e_leads_on k_leads_on
  have b_leads_on := F_leads_on.binds (ps := ["house", "hand", "left", "room"]) fun _ _ _ _ _ _ us hl => match us, hl with | [_, _, _, _], _ => rfl
  have F_order_of_all := fun_mk (st := s_order_of_all) l_order_of_all e_order_of_all k_order_of_all
  have b_order_of_all := F_order_of_all.binds (ps := ["house"]) fun _ _ _ _ _ _ us hl => match us, hl with | [_], _ => rfl
  have F_shut_kinds := fun_mk (st := s_shut_kinds) l_shut_kinds e_shut_kinds k_shut_kinds
  have b_shut_kinds := F_shut_kinds.binds (ps := ["house"]) fun _ _ _ _ _ _ us hl => match us, hl with | [_], _ => rfl
  have F_told_opening := fun_mk (st := s_told_opening) l_told_opening e_told_opening k_told_opening
  have b_told_opening := F_told_opening.binds (ps := ["house"]) fun _ _ _ _ _ _ us hl => match us, hl with | [_], _ => rfl
  have F_kinds_lacking := fun_mk (st := s_kinds_lacking) l_kinds_lacking e_kinds_lacking k_kinds_lacking
  have b_kinds_lacking := F_kinds_lacking.binds (ps := ["house"]) fun _ _ _ _ _ _ us hl => match us, hl with | [_], _ => rfl
  have F_kinds_led_to := fun_mk (st := s_kinds_led_to) l_kinds_led_to e_kinds_led_to k_kinds_led_to
  have b_kinds_led_to := F_kinds_led_to.binds (ps := ["house", "kind"]) fun _ _ _ _ _ _ us hl => match us, hl with | [_, _], _ => rfl
  have F_shut_groups := fun_mk (st := s_shut_groups) l_shut_groups e_shut_groups k_shut_groups
  have b_shut_groups := F_shut_groups.binds (ps := ["house"]) fun _ _ _ _ _ _ us hl => match us, hl with | [_], _ => rfl
  have F_keys_to_buy := fun_mk (st := s_keys_to_buy) l_keys_to_buy e_keys_to_buy k_keys_to_buy
  have b_keys_to_buy := F_keys_to_buy.binds (ps := ["house"]) fun _ _ _ _ _ _ us hl => match us, hl with | [_], _ => rfl
  have F_first_order := fun_mk (st := s_first_order) l_first_order e_first_order k_first_order
  have b_first_order := F_first_order.binds (ps := ["house"]) fun _ _ _ _ _ _ us hl => match us, hl with | [_], _ => rfl
  have F_need_few := fun_mk (st := s_need_few) l_need_few e_need_few k_need_few
  have b_need_few := F_need_few.binds (ps := ["house"]) fun _ _ _ _ _ _ us hl => match us, hl with | [_], _ => rfl
  have F_counted_kinds := fun_mk (st := s_counted_kinds) l_counted_kinds e_counted_kinds k_counted_kinds
  have b_counted_kinds := F_counted_kinds.binds (ps := ["kinds"]) fun _ _ _ _ _ _ us hl => match us, hl with | [_], _ => rfl
  have F_how_many_orders := fun_mk (st := s_how_many_orders) l_how_many_orders e_how_many_orders k_how_many_orders
  have b_how_many_orders := F_how_many_orders.binds (ps := ["house"]) fun _ _ _ _ _ _ us hl => match us, hl with | [_], _ => rfl
  have F_nth_order := fun_mk (st := s_nth_order) l_nth_order e_nth_order k_nth_order
  have b_nth_order := F_nth_order.binds (ps := ["house", "k"]) fun _ _ _ _ _ _ us hl => match us, hl with | [_, _], _ => rfl
  have F_rooms_of := fun_mk (st := s_rooms_of) l_rooms_of e_rooms_of k_rooms_of
  have b_rooms_of := F_rooms_of.binds (ps := ["number"]) fun _ _ _ _ _ _ us hl => match us, hl with | [_], _ => rfl
  have F_sets_that_come := fun_mk (st := s_sets_that_come) l_sets_that_come e_sets_that_come k_sets_that_come
  have b_sets_that_come := F_sets_that_come.binds (ps := ["house"]) fun _ _ _ _ _ _ us hl => match us, hl with | [_], _ => rfl
  have F_need_worths := fun_mk (st := s_need_worths) l_need_worths e_need_worths k_need_worths
  have b_need_worths := F_need_worths.binds (ps := ["house", "worths"]) fun _ _ _ _ _ _ us hl => match us, hl with | [_, _], _ => rfl
  have F_worth_of := fun_mk (st := s_worth_of) l_worth_of e_worth_of k_worth_of
  have b_worth_of := F_worth_of.binds (ps := ["rooms", "worths"]) fun _ _ _ _ _ _ us hl => match us, hl with | [_, _], _ => rfl
  have F_most_rooms := fun_mk (st := s_most_rooms) l_most_rooms e_most_rooms k_most_rooms
  have b_most_rooms := F_most_rooms.binds (ps := ["house"]) fun _ _ _ _ _ _ us hl => match us, hl with | [_], _ => rfl
  have F_most_worth := fun_mk (st := s_most_worth) l_most_worth e_most_worth k_most_worth
  have b_most_worth := F_most_worth.binds (ps := ["house", "worths"]) fun _ _ _ _ _ _ us hl => match us, hl with | [_, _], _ => rfl
  have F_all_of := fun_mk (st := s_all_of) l_all_of e_all_of k_all_of
  have b_all_of := F_all_of.binds (ps := ["word", "signs"]) fun _ _ _ _ _ _ us hl => match us, hl with | [_, _], _ => rfl
  have F_is_kind_rows := fun_mk (st := s_is_kind_rows) l_is_kind_rows e_is_kind_rows k_is_kind_rows
  have b_is_kind_rows := F_is_kind_rows.binds (ps := ["word"]) fun _ _ _ _ _ _ us hl => match us, hl with | [_], _ => rfl
  have F_is_number := fun_mk (st := s_is_number) l_is_number e_is_number k_is_number
  have b_is_number := F_is_number.binds (ps := ["word"]) fun _ _ _ _ _ _ us hl => match us, hl with | [_], _ => rfl
  have F_keys_asked := fun_mk (st := s_keys_asked) l_keys_asked e_keys_asked k_keys_asked
  have b_keys_asked := F_keys_asked.binds (ps := ["words"]) fun _ _ _ _ _ _ us hl => match us, hl with | [_], _ => rfl
  have F_locks_asked := fun_mk (st := s_locks_asked) l_locks_asked e_locks_asked k_locks_asked
  have b_locks_asked := F_locks_asked.binds (ps := ["word"]) fun _ _ _ _ _ _ us hl => match us, hl with | [_], _ => rfl
  have F_joined_words := fun_mk (st := s_joined_words) l_joined_words e_joined_words k_joined_words
  have b_joined_words := F_joined_words.binds (ps := ["things"]) fun _ _ _ _ _ _ us hl => match us, hl with | [_], _ => rfl
  have F_words_asked := fun_mk (st := s_words_asked) l_words_asked e_words_asked k_words_asked
  have b_words_asked := F_words_asked.binds (ps := ["row"]) fun _ _ _ _ _ _ us hl => match us, hl with | [_], _ => rfl
  have F_show_keys := fun_mk (st := s_show_keys) l_show_keys e_show_keys k_show_keys
  have b_show_keys := F_show_keys.binds (ps := ["keys"]) fun _ _ _ _ _ _ us hl => match us, hl with | [_], _ => rfl
  have F_show_room := fun_mk (st := s_show_room) l_show_room e_show_room k_show_room
  have b_show_room := F_show_room.binds (ps := ["room"]) fun _ _ _ _ _ _ us hl => match us, hl with | [_], _ => rfl
  have F_show_house := fun_mk (st := s_show_house) l_show_house e_show_house k_show_house
  have b_show_house := F_show_house.binds (ps := ["house"]) fun _ _ _ _ _ _ us hl => match us, hl with | [_], _ => rfl
  have F_opening_words := fun_mk (st := s_opening_words) l_opening_words e_opening_words k_opening_words
  have b_opening_words := F_opening_words.binds (ps := ["found"]) fun _ _ _ _ _ _ us hl => match us, hl with | [_], _ => rfl
  have F_law_cell_at := fun_mk (st := s_law_cell_at) l_law_cell_at e_law_cell_at k_law_cell_at
  have b_law_cell_at := F_law_cell_at.binds (ps := ["script", "k"]) fun _ _ _ _ _ _ us hl => match us, hl with | [_, _], _ => rfl
  have F_law_numbers := fun_mk (st := s_law_numbers) l_law_numbers e_law_numbers k_law_numbers
  have b_law_numbers := F_law_numbers.binds (ps := ["cell", "many"]) fun _ _ _ _ _ _ us hl => match us, hl with | [_, _], _ => rfl
  have F_law_deck := fun_mk (st := s_law_deck) l_law_deck e_law_deck k_law_deck
  have b_law_deck := F_law_deck.binds (ps := ["cell", "many"]) fun _ _ _ _ _ _ us hl => match us, hl with | [_, _], _ => rfl
  have F_law_take := fun_mk (st := s_law_take) l_law_take e_law_take k_law_take
  have b_law_take := F_law_take.binds (ps := ["deck", "many"]) fun _ _ _ _ _ _ us hl => match us, hl with | [_, _], _ => rfl
  have F_law_kind := fun_mk (st := s_law_kind) l_law_kind e_law_kind k_law_kind
  have b_law_kind := F_law_kind.binds (ps := ["deck", "few"]) fun _ _ _ _ _ _ us hl => match us, hl with | [_, _], _ => rfl
  have F_law_keys := fun_mk (st := s_law_keys) l_law_keys e_law_keys k_law_keys
  have b_law_keys := F_law_keys.binds (ps := ["deck", "few", "most"]) fun _ _ _ _ _ _ us hl => match us, hl with | [_, _, _], _ => rfl
  have F_law_house := fun_mk (st := s_law_house) l_law_house e_law_house k_law_house
  have b_law_house := F_law_house.binds (ps := ["deck", "most", "locks"]) fun _ _ _ _ _ _ us hl => match us, hl with | [_, _, _], _ => rfl
  have F_law_keys_written := fun_mk (st := s_law_keys_written) l_law_keys_written e_law_keys_written k_law_keys_written
  have b_law_keys_written := F_law_keys_written.binds (ps := ["keys"]) fun _ _ _ _ _ _ us hl => match us, hl with | [_], _ => rfl
  have F_law_lines := fun_mk (st := s_law_lines) l_law_lines e_law_lines k_law_lines
  have b_law_lines := F_law_lines.binds (ps := ["house"]) fun _ _ _ _ _ _ us hl => match us, hl with | [_], _ => rfl
  have F_law_hand := fun_mk (st := s_law_hand) l_law_hand e_law_hand k_law_hand
  have b_law_hand := F_law_hand.binds (ps := ["house", "order"]) fun _ _ _ _ _ _ us hl => match us, hl with | [_, _], _ => rfl
  have F_law_next := fun_mk (st := s_law_next) l_law_next e_law_next k_law_next
  have b_law_next := F_law_next.binds (ps := ["house", "order"]) fun _ _ _ _ _ _ us hl => match us, hl with | [_, _], _ => rfl
  have F_law_words := fun_mk (st := s_law_words) l_law_words e_law_words k_law_words
  have b_law_words := F_law_words.binds (ps := ["things"]) fun _ _ _ _ _ _ us hl => match us, hl with | [_], _ => rfl
  have F_law_said := fun_mk (st := s_law_said) l_law_said e_law_said k_law_said
  have b_law_said := F_law_said.binds (ps := ["desk", "row"]) fun _ _ _ _ _ _ us hl => match us, hl with | [_, _], _ => rfl
  have F_law_house_rows := fun_mk (st := s_law_house_rows) l_law_house_rows e_law_house_rows k_law_house_rows
  have b_law_house_rows := F_law_house_rows.binds (ps := ["deck", "house"]) fun _ _ _ _ _ _ us hl => match us, hl with | [_, _], _ => rfl
  have F_law_row := fun_mk (st := s_law_row) l_law_row e_law_row k_law_row
  have b_law_row := F_law_row.binds (ps := ["deck", "state"]) fun _ _ _ _ _ _ us hl => match us, hl with | [_, _], _ => rfl
  have F_law_as_kept := fun_mk (st := s_law_as_kept) l_law_as_kept e_law_as_kept k_law_as_kept
  have b_law_as_kept := F_law_as_kept.binds (ps := ["desk", "state"]) fun _ _ _ _ _ _ us hl => match us, hl with | [_, _], _ => rfl
  have F_law := fun_mk (st := s_law) l_law e_law k_law
  have b_law := F_law.binds (ps := ["script"]) fun _ _ _ _ _ _ us hl => match us, hl with | [_], _ => rfl
  have F_Opened_init := fun_mk (st := s_Opened_init) l_Opened_init e_Opened_init k_Opened_init
  have b_Opened_init := F_Opened_init.binds (ps := ["self", "house"]) fun _ _ _ _ _ _ us hl => match us, hl with | [_, _], _ => rfl
  have F_Opened_hand_at := fun_mk (st := s_Opened_hand_at) l_Opened_hand_at e_Opened_hand_at k_Opened_hand_at
  have b_Opened_hand_at := F_Opened_hand_at.binds (ps := ["self", "rooms"]) fun _ _ _ _ _ _ us hl => match us, hl with | [_, _], _ => rfl
  have F_Opened_next_at := fun_mk (st := s_Opened_next_at) l_Opened_next_at e_Opened_next_at k_Opened_next_at
  have b_Opened_next_at := F_Opened_next_at.binds (ps := ["self", "rooms"]) fun _ _ _ _ _ _ us hl => match us, hl with | [_, _], _ => rfl
  have F_Opened_to_all := fun_mk (st := s_Opened_to_all) l_Opened_to_all e_Opened_to_all k_Opened_to_all
  have b_Opened_to_all := F_Opened_to_all.binds (ps := ["self", "rooms"]) fun _ _ _ _ _ _ us hl => match us, hl with | [_, _], _ => rfl
  have F_Desk_init := fun_mk (st := s_Desk_init) l_Desk_init e_Desk_init k_Desk_init
  have b_Desk_init := F_Desk_init.binds (ps := ["self"]) fun _ _ _ _ _ _ us hl => match us, hl with | [_], _ => rfl
  have F_Desk_begin_anew := fun_mk (st := s_Desk_begin_anew) l_Desk_begin_anew e_Desk_begin_anew k_Desk_begin_anew
  have b_Desk_begin_anew := F_Desk_begin_anew.binds (ps := ["self"]) fun _ _ _ _ _ _ us hl => match us, hl with | [_], _ => rfl
  have F_Desk_house := fun_mk (st := s_Desk_house) l_Desk_house e_Desk_house k_Desk_house
  have b_Desk_house := F_Desk_house.binds (ps := ["self"]) fun _ _ _ _ _ _ us hl => match us, hl with | [_], _ => rfl
  have F_Desk_put_room := fun_mk (st := s_Desk_put_room) l_Desk_put_room e_Desk_put_room k_Desk_put_room
  have b_Desk_put_room := F_Desk_put_room.binds (ps := ["self", "locks", "keys"]) fun _ _ _ _ _ _ us hl => match us, hl with | [_, _, _], _ => rfl
  have F_Desk_changed := fun_mk (st := s_Desk_changed) l_Desk_changed e_Desk_changed k_Desk_changed
  have b_Desk_changed := F_Desk_changed.binds (ps := ["self", "words"]) fun _ _ _ _ _ _ us hl => match us, hl with | [_, _], _ => rfl
  have F_Desk_stands := fun_mk (st := s_Desk_stands) l_Desk_stands e_Desk_stands k_Desk_stands
  have b_Desk_stands := F_Desk_stands.binds (ps := ["self", "word"]) fun _ _ _ _ _ _ us hl => match us, hl with | [_, _], _ => rfl
  have F_Desk_told := fun_mk (st := s_Desk_told) l_Desk_told e_Desk_told k_Desk_told
  have b_Desk_told := F_Desk_told.binds (ps := ["self", "words"]) fun _ _ _ _ _ _ us hl => match us, hl with | [_, _], _ => rfl
  have F_Desk_say := fun_mk (st := s_Desk_say) l_Desk_say e_Desk_say k_Desk_say
  have b_Desk_say := F_Desk_say.binds (ps := ["self", "row"]) fun _ _ _ _ _ _ us hl => match us, hl with | [_, _], _ => rfl
  have F_init := fun_mk (st := s_NoStep_init) l_init e_init k_init
  have b_init := F_init.binds (ps := ["self", "at"]) fun _ _ _ _ _ _ us hl => match us, hl with | [_, _], _ => rfl
  let E0 : ExT := mkE [e_NoHouse, e_NoPlain, e_NoOrder, e_NoNumber, e_NoKind, e_TooMany, e_NoText, e_NoRow, e_NoStep] rfl z_E
  have xx_TooMany : ExcC K e_TooMany := exc_mk xg_TooMany xa_TooMany xs_TooMany xd_TooMany xc_TooMany w_n w_t xm_TooMany
  have xx_NoStep : ExcC K e_NoStep := exc_mk xg_NoStep xa_NoStep xs_NoStep xd_NoStep xc_NoStep w_n w_t xm_NoStep
  let T : Tx K mg w := {
    E := E0,
    e_KeyroomError := e_KeyroomError, x_KeyroomError := PySem.W.mg_of X G a_KeyroomError,
    g_NoHouse := PySem.W.mg_of X G a_NoHouse,
    g_NoPlain := PySem.W.mg_of X G a_NoPlain,
    g_NoOrder := PySem.W.mg_of X G a_NoOrder,
    g_NoNumber := PySem.W.mg_of X G a_NoNumber,
    g_NoKind := PySem.W.mg_of X G a_NoKind,
    x_TooMany := ⟨PySem.W.mg_of X G a_TooMany, xk_TooMany, xs_TooMany, xt_TooMany, xi_TooMany, xx_TooMany⟩,
    q_TooMany := xq_TooMany,
    g_TooMany := PySem.W.mg_of X G a_TooMany,
    g_NoText := PySem.W.mg_of X G a_NoText,
    g_NoRow := PySem.W.mg_of X G a_NoRow,
    x_NoStep := ⟨PySem.W.mg_of X G a_NoStep, xk_NoStep, xs_NoStep, xt_NoStep, xi_NoStep, xx_NoStep⟩,
    g_NoStep := PySem.W.mg_of X G a_NoStep,
    xC := (fl_cons (xx_TooMany) (fl_cons (xx_NoStep) fl_nil)),
    k_NoRow := (fl_cons (kit_ref ni_NoRow nt_NoRow u_TooMany_NoRow (fun z => absurd (E0.inj .many .row z) (fun y => nomatch y))) (fl_cons (kit_ref ni_NoRow nt_NoRow u_NoStep_NoRow (fun z => absurd (E0.inj .step .row z) (fun y => nomatch y))) fl_nil)),
    k_NoStep := (fl_cons (kit_ref xi_NoStep xt_NoStep u_TooMany_NoStep (fun z => absurd (E0.inj .many .step z) (fun y => nomatch y))) (fl_cons (kit_ref xi_NoStep xt_NoStep u_NoStep_NoStep (fun _ => rfl)) fl_nil)),
    k_NoPlain := (fl_cons (kit_ref ni_NoPlain nt_NoPlain u_TooMany_NoPlain (fun z => absurd (E0.inj .many .plain z) (fun y => nomatch y))) (fl_cons (kit_ref ni_NoPlain nt_NoPlain u_NoStep_NoPlain (fun z => absurd (E0.inj .step .plain z) (fun y => nomatch y))) fl_nil)),
    k_NoHouse := (fl_cons (kit_ref ni_NoHouse nt_NoHouse u_TooMany_NoHouse (fun z => absurd (E0.inj .many .house z) (fun y => nomatch y))) (fl_cons (kit_ref ni_NoHouse nt_NoHouse u_NoStep_NoHouse (fun z => absurd (E0.inj .step .house z) (fun y => nomatch y))) fl_nil)),
    k_NoKind := (fl_cons (kit_ref ni_NoKind nt_NoKind u_TooMany_NoKind (fun z => absurd (E0.inj .many .kind z) (fun y => nomatch y))) (fl_cons (kit_ref ni_NoKind nt_NoKind u_NoStep_NoKind (fun z => absurd (E0.inj .step .kind z) (fun y => nomatch y))) fl_nil)),
    k_NoOrder := (fl_cons (kit_ref ni_NoOrder nt_NoOrder u_TooMany_NoOrder (fun z => absurd (E0.inj .many .order z) (fun y => nomatch y))) (fl_cons (kit_ref ni_NoOrder nt_NoOrder u_NoStep_NoOrder (fun z => absurd (E0.inj .step .order z) (fun y => nomatch y))) fl_nil)),
    k_NoText := (fl_cons (kit_ref ni_NoText nt_NoText u_TooMany_NoText (fun z => absurd (E0.inj .many .text z) (fun y => nomatch y))) (fl_cons (kit_ref ni_NoText nt_NoText u_NoStep_NoText (fun z => absurd (E0.inj .step .text z) (fun y => nomatch y))) fl_nil)),
    k_NoNumber := (fl_cons (kit_ref ni_NoNumber nt_NoNumber u_TooMany_NoNumber (fun z => absurd (E0.inj .many .number z) (fun y => nomatch y))) (fl_cons (kit_ref ni_NoNumber nt_NoNumber u_NoStep_NoNumber (fun z => absurd (E0.inj .step .number z) (fun y => nomatch y))) fl_nil)),
    k_TooMany := (fl_cons (kit_ref xi_TooMany xt_TooMany u_TooMany_TooMany (fun _ => rfl)) (fl_cons (kit_ref xi_TooMany xt_TooMany u_NoStep_TooMany (fun z => absurd (E0.inj .step .many z) (fun y => nomatch y))) fl_nil)),
    k_ValueError := (fl_cons (kit_typ (by decide +kernel) u_TooMany_ValueError) (fl_cons (kit_typ (by decide +kernel) u_NoStep_ValueError) fl_nil)),
    h_KeyroomError := (fl_cons (fun _ => exm_of ns_KeyroomError ni_KeyroomError nt_KeyroomError u_TooMany_KeyroomError) (fl_cons (fun _ => exm_of ns_KeyroomError ni_KeyroomError nt_KeyroomError u_NoStep_KeyroomError) fl_nil)),
    f_init := fi, d_init := _, F_init := F_init, b_init := b_init,
    st := ⟨⟨⟨nmS, qS, NS, bsS, _, snS, subS, abS, colS, ddS, m0S, m1S, m2S, m3S, m5S, st_l, by first | rfl | decide +kernel⟩, st_s, xs_NoStep, xt_NoStep, xk_NoStep⟩, PySem.W.mg_of X G a_NoStep, PySem.W.mg_of X G a_KeyroomError, st_i, st_t, st_n, st_p, st_r, st_f⟩,
    xf := ⟨xg_NoStep, xa_NoStep, xs_NoStep, xd_NoStep⟩,
    f_is_kind_houses := _, d_is_kind_houses := _, F_is_kind_houses := F_is_kind_houses, b_is_kind_houses := b_is_kind_houses,
    g_is_kind_houses := PySem.W.mg_of X G a_is_kind_houses,
    f_are_keys := _, d_are_keys := _, F_are_keys := F_are_keys, b_are_keys := b_are_keys,
    g_are_keys := PySem.W.mg_of X G a_are_keys,
    f_is_room := _, d_is_room := _, F_is_room := F_is_room, b_is_room := b_is_room,
    g_is_room := PySem.W.mg_of X G a_is_room,
    f_is_house := _, d_is_house := _, F_is_house := F_is_house, b_is_house := b_is_house,
    g_is_house := PySem.W.mg_of X G a_is_house,
    f_need_house := _, d_need_house := _, F_need_house := F_need_house, b_need_house := b_need_house,
    g_need_house := PySem.W.mg_of X G a_need_house,
    f_is_plain := _, d_is_plain := _, F_is_plain := F_is_plain, b_is_plain := b_is_plain,
    g_is_plain := PySem.W.mg_of X G a_is_plain,
    f_may_be_opened := _, d_may_be_opened := _, F_may_be_opened := F_may_be_opened, b_may_be_opened := b_may_be_opened,
    g_may_be_opened := PySem.W.mg_of X G a_may_be_opened,
    f_walked := _, d_walked := _, F_walked := F_walked, b_walked := b_walked,
    g_walked := PySem.W.mg_of X G a_walked,
    f_keys_behind := _, d_keys_behind := _, F_keys_behind := F_keys_behind, b_keys_behind := b_keys_behind,
    g_keys_behind := PySem.W.mg_of X G a_keys_behind,
    f_next_rooms := _, d_next_rooms := _, F_next_rooms := F_next_rooms, b_next_rooms := b_next_rooms,
    g_next_rooms := PySem.W.mg_of X G a_next_rooms,
    f_kinds_counted := _, d_kinds_counted := _, F_kinds_counted := F_kinds_counted, b_kinds_counted := b_kinds_counted,
    g_kinds_counted := PySem.W.mg_of X G a_kinds_counted,
    f_kinds_that_come := _, d_kinds_that_come := _, F_kinds_that_come := F_kinds_that_come, b_kinds_that_come := b_kinds_that_come,
    g_kinds_that_come := PySem.W.mg_of X G a_kinds_that_come,
    f_rooms_that_come := _, d_rooms_that_come := _, F_rooms_that_come := F_rooms_that_come, b_rooms_that_come := b_rooms_that_come,
    g_rooms_that_come := PySem.W.mg_of X G a_rooms_that_come,
    f_need_plain := _, d_need_plain := _, F_need_plain := F_need_plain, b_need_plain := b_need_plain,
    g_need_plain := PySem.W.mg_of X G a_need_plain,
    f_kinds_short := _, d_kinds_short := _, F_kinds_short := F_kinds_short, b_kinds_short := b_kinds_short,
    g_kinds_short := PySem.W.mg_of X G a_kinds_short,
    f_can_all := _, d_can_all := _, F_can_all := F_can_all, b_can_all := b_can_all,
    g_can_all := PySem.W.mg_of X G a_can_all,
    f_house_left := _, d_house_left := _, F_house_left := F_house_left, b_house_left := b_house_left,
    g_house_left := PySem.W.mg_of X G a_house_left,
    f_hand_behind := _, d_hand_behind := _, F_hand_behind := F_hand_behind, b_hand_behind := b_hand_behind,
    g_hand_behind := PySem.W.mg_of X G a_hand_behind,
    f_leads_on := _, d_leads_on := _, F_leads_on := F_leads_on, b_leads_on := b_leads_on,
    g_leads_on := PySem.W.mg_of X G a_leads_on,
    f_order_of_all := _, d_order_of_all := _, F_order_of_all := F_order_of_all, b_order_of_all := b_order_of_all,
    g_order_of_all := PySem.W.mg_of X G a_order_of_all,
    f_shut_kinds := _, d_shut_kinds := _, F_shut_kinds := F_shut_kinds, b_shut_kinds := b_shut_kinds,
    g_shut_kinds := PySem.W.mg_of X G a_shut_kinds,
    f_told_opening := _, d_told_opening := _, F_told_opening := F_told_opening, b_told_opening := b_told_opening,
    g_told_opening := PySem.W.mg_of X G a_told_opening,
    f_kinds_lacking := _, d_kinds_lacking := _, F_kinds_lacking := F_kinds_lacking, b_kinds_lacking := b_kinds_lacking,
    g_kinds_lacking := PySem.W.mg_of X G a_kinds_lacking,
    f_kinds_led_to := _, d_kinds_led_to := _, F_kinds_led_to := F_kinds_led_to, b_kinds_led_to := b_kinds_led_to,
    g_kinds_led_to := PySem.W.mg_of X G a_kinds_led_to,
    f_shut_groups := _, d_shut_groups := _, F_shut_groups := F_shut_groups, b_shut_groups := b_shut_groups,
    g_shut_groups := PySem.W.mg_of X G a_shut_groups,
    f_keys_to_buy := _, d_keys_to_buy := _, F_keys_to_buy := F_keys_to_buy, b_keys_to_buy := b_keys_to_buy,
    g_keys_to_buy := PySem.W.mg_of X G a_keys_to_buy,
    f_first_order := _, d_first_order := _, F_first_order := F_first_order, b_first_order := b_first_order,
    g_first_order := PySem.W.mg_of X G a_first_order,
    f_need_few := _, d_need_few := _, F_need_few := F_need_few, b_need_few := b_need_few,
    g_need_few := PySem.W.mg_of X G a_need_few,
    f_counted_kinds := _, d_counted_kinds := _, F_counted_kinds := F_counted_kinds, b_counted_kinds := b_counted_kinds,
    g_counted_kinds := PySem.W.mg_of X G a_counted_kinds,
    f_how_many_orders := _, d_how_many_orders := _, F_how_many_orders := F_how_many_orders, b_how_many_orders := b_how_many_orders,
    g_how_many_orders := PySem.W.mg_of X G a_how_many_orders,
    f_nth_order := _, d_nth_order := _, F_nth_order := F_nth_order, b_nth_order := b_nth_order,
    g_nth_order := PySem.W.mg_of X G a_nth_order,
    f_rooms_of := _, d_rooms_of := _, F_rooms_of := F_rooms_of, b_rooms_of := b_rooms_of,
    g_rooms_of := PySem.W.mg_of X G a_rooms_of,
    f_sets_that_come := _, d_sets_that_come := _, F_sets_that_come := F_sets_that_come, b_sets_that_come := b_sets_that_come,
    g_sets_that_come := PySem.W.mg_of X G a_sets_that_come,
    f_need_worths := _, d_need_worths := _, F_need_worths := F_need_worths, b_need_worths := b_need_worths,
    g_need_worths := PySem.W.mg_of X G a_need_worths,
    f_worth_of := _, d_worth_of := _, F_worth_of := F_worth_of, b_worth_of := b_worth_of,
    g_worth_of := PySem.W.mg_of X G a_worth_of,
    f_most_rooms := _, d_most_rooms := _, F_most_rooms := F_most_rooms, b_most_rooms := b_most_rooms,
    g_most_rooms := PySem.W.mg_of X G a_most_rooms,
    f_most_worth := _, d_most_worth := _, F_most_worth := F_most_worth, b_most_worth := b_most_worth,
    g_most_worth := PySem.W.mg_of X G a_most_worth,
    f_all_of := _, d_all_of := _, F_all_of := F_all_of, b_all_of := b_all_of,
    g_all_of := PySem.W.mg_of X G a_all_of,
    f_is_kind_rows := _, d_is_kind_rows := _, F_is_kind_rows := F_is_kind_rows, b_is_kind_rows := b_is_kind_rows,
    g_is_kind_rows := PySem.W.mg_of X G a_is_kind_rows,
    f_is_number := _, d_is_number := _, F_is_number := F_is_number, b_is_number := b_is_number,
    g_is_number := PySem.W.mg_of X G a_is_number,
    f_keys_asked := _, d_keys_asked := _, F_keys_asked := F_keys_asked, b_keys_asked := b_keys_asked,
    g_keys_asked := PySem.W.mg_of X G a_keys_asked,
    f_locks_asked := _, d_locks_asked := _, F_locks_asked := F_locks_asked, b_locks_asked := b_locks_asked,
    g_locks_asked := PySem.W.mg_of X G a_locks_asked,
    f_joined_words := _, d_joined_words := _, F_joined_words := F_joined_words, b_joined_words := b_joined_words,
    g_joined_words := PySem.W.mg_of X G a_joined_words,
    f_words_asked := _, d_words_asked := _, F_words_asked := F_words_asked, b_words_asked := b_words_asked,
    g_words_asked := PySem.W.mg_of X G a_words_asked,
    f_show_keys := _, d_show_keys := _, F_show_keys := F_show_keys, b_show_keys := b_show_keys,
    g_show_keys := PySem.W.mg_of X G a_show_keys,
    f_show_room := _, d_show_room := _, F_show_room := F_show_room, b_show_room := b_show_room,
    g_show_room := PySem.W.mg_of X G a_show_room,
    f_show_house := _, d_show_house := _, F_show_house := F_show_house, b_show_house := b_show_house,
    g_show_house := PySem.W.mg_of X G a_show_house,
    f_opening_words := _, d_opening_words := _, F_opening_words := F_opening_words, b_opening_words := b_opening_words,
    g_opening_words := PySem.W.mg_of X G a_opening_words,
    f_law_cell_at := _, d_law_cell_at := _, F_law_cell_at := F_law_cell_at, b_law_cell_at := b_law_cell_at,
    g_law_cell_at := PySem.W.mg_of X G a_law_cell_at,
    f_law_numbers := _, d_law_numbers := _, F_law_numbers := F_law_numbers, b_law_numbers := b_law_numbers,
    g_law_numbers := PySem.W.mg_of X G a_law_numbers,
    f_law_deck := _, d_law_deck := _, F_law_deck := F_law_deck, b_law_deck := b_law_deck,
    g_law_deck := PySem.W.mg_of X G a_law_deck,
    f_law_take := _, d_law_take := _, F_law_take := F_law_take, b_law_take := b_law_take,
    g_law_take := PySem.W.mg_of X G a_law_take,
    f_law_kind := _, d_law_kind := _, F_law_kind := F_law_kind, b_law_kind := b_law_kind,
    g_law_kind := PySem.W.mg_of X G a_law_kind,
    f_law_keys := _, d_law_keys := _, F_law_keys := F_law_keys, b_law_keys := b_law_keys,
    g_law_keys := PySem.W.mg_of X G a_law_keys,
    f_law_house := _, d_law_house := _, F_law_house := F_law_house, b_law_house := b_law_house,
    g_law_house := PySem.W.mg_of X G a_law_house,
    f_law_keys_written := _, d_law_keys_written := _, F_law_keys_written := F_law_keys_written, b_law_keys_written := b_law_keys_written,
    g_law_keys_written := PySem.W.mg_of X G a_law_keys_written,
    f_law_lines := _, d_law_lines := _, F_law_lines := F_law_lines, b_law_lines := b_law_lines,
    g_law_lines := PySem.W.mg_of X G a_law_lines,
    f_law_hand := _, d_law_hand := _, F_law_hand := F_law_hand, b_law_hand := b_law_hand,
    g_law_hand := PySem.W.mg_of X G a_law_hand,
    f_law_next := _, d_law_next := _, F_law_next := F_law_next, b_law_next := b_law_next,
    g_law_next := PySem.W.mg_of X G a_law_next,
    f_law_words := _, d_law_words := _, F_law_words := F_law_words, b_law_words := b_law_words,
    g_law_words := PySem.W.mg_of X G a_law_words,
    f_law_said := _, d_law_said := _, F_law_said := F_law_said, b_law_said := b_law_said,
    g_law_said := PySem.W.mg_of X G a_law_said,
    f_law_house_rows := _, d_law_house_rows := _, F_law_house_rows := F_law_house_rows, b_law_house_rows := b_law_house_rows,
    g_law_house_rows := PySem.W.mg_of X G a_law_house_rows,
    f_law_row := _, d_law_row := _, F_law_row := F_law_row, b_law_row := b_law_row,
    g_law_row := PySem.W.mg_of X G a_law_row,
    f_law_as_kept := _, d_law_as_kept := _, F_law_as_kept := F_law_as_kept, b_law_as_kept := b_law_as_kept,
    g_law_as_kept := PySem.W.mg_of X G a_law_as_kept,
    f_law := _, d_law := _, F_law := F_law, b_law := b_law,
    g_law := PySem.W.mg_of X G a_law,
    f_Opened_init := _, d_Opened_init := _, F_Opened_init := F_Opened_init, b_Opened_init := b_Opened_init,
    f_Opened_hand_at := _, d_Opened_hand_at := _, F_Opened_hand_at := F_Opened_hand_at, b_Opened_hand_at := b_Opened_hand_at,
    me_Opened_hand_at := ⟨i_Opened_hand_at, n_Opened_hand_at, k_Opened_hand_at⟩,
    f_Opened_next_at := _, d_Opened_next_at := _, F_Opened_next_at := F_Opened_next_at, b_Opened_next_at := b_Opened_next_at,
    me_Opened_next_at := ⟨i_Opened_next_at, n_Opened_next_at, k_Opened_next_at⟩,
    f_Opened_to_all := _, d_Opened_to_all := _, F_Opened_to_all := F_Opened_to_all, b_Opened_to_all := b_Opened_to_all,
    me_Opened_to_all := ⟨i_Opened_to_all, n_Opened_to_all, k_Opened_to_all⟩,
    f_Desk_init := _, d_Desk_init := _, F_Desk_init := F_Desk_init, b_Desk_init := b_Desk_init,
    f_Desk_begin_anew := _, d_Desk_begin_anew := _, F_Desk_begin_anew := F_Desk_begin_anew, b_Desk_begin_anew := b_Desk_begin_anew,
    me_Desk_begin_anew := ⟨i_Desk_begin_anew, n_Desk_begin_anew, k_Desk_begin_anew⟩,
    f_Desk_house := _, d_Desk_house := _, F_Desk_house := F_Desk_house, b_Desk_house := b_Desk_house,
    me_Desk_house := ⟨i_Desk_house, n_Desk_house, k_Desk_house⟩,
    f_Desk_put_room := _, d_Desk_put_room := _, F_Desk_put_room := F_Desk_put_room, b_Desk_put_room := b_Desk_put_room,
    me_Desk_put_room := ⟨i_Desk_put_room, n_Desk_put_room, k_Desk_put_room⟩,
    f_Desk_changed := _, d_Desk_changed := _, F_Desk_changed := F_Desk_changed, b_Desk_changed := b_Desk_changed,
    me_Desk_changed := ⟨i_Desk_changed, n_Desk_changed, k_Desk_changed⟩,
    f_Desk_stands := _, d_Desk_stands := _, F_Desk_stands := F_Desk_stands, b_Desk_stands := b_Desk_stands,
    me_Desk_stands := ⟨i_Desk_stands, n_Desk_stands, k_Desk_stands⟩,
    f_Desk_told := _, d_Desk_told := _, F_Desk_told := F_Desk_told, b_Desk_told := b_Desk_told,
    me_Desk_told := ⟨i_Desk_told, n_Desk_told, k_Desk_told⟩,
    f_Desk_say := _, d_Desk_say := _, F_Desk_say := F_Desk_say, b_Desk_say := b_Desk_say,
    me_Desk_say := ⟨i_Desk_say, n_Desk_say, k_Desk_say⟩,
    O := ⟨ow_Opened, ow_Desk⟩,
    c_Opened := ⟨cg_Opened, ch_Opened, co_Opened, cs_Opened⟩, mk_Opened := ⟨cm_Opened, i_Opened_init, n_Opened_init, ck_Opened⟩, g_Opened := PySem.W.mg_of X G e_Opened,
    na_Opened_locks := na_Opened_locks,
    na_Opened_within := na_Opened_within,
    na_Opened_many := na_Opened_many,
    na_Opened_all_rooms := na_Opened_all_rooms,
    na_Opened_hands := na_Opened_hands,
    na_Opened_goings := na_Opened_goings,
    na_Opened_ends := na_Opened_ends,
    c_Desk := ⟨cg_Desk, ch_Desk, co_Desk, cs_Desk⟩, mk_Desk := ⟨cm_Desk, i_Desk_init, n_Desk_init, ck_Desk⟩, g_Desk := PySem.W.mg_of X G e_Desk,
    na_Desk_first_keys := na_Desk_first_keys,
    na_Desk_rooms_here := na_Desk_rooms_here,
    na_Desk_worths := na_Desk_worths,
    na_Desk_gone_here := na_Desk_gone_here,
    m_isinstance := PySem.W.mg_none_of X G z_isinstance,
    m_str := PySem.W.mg_none_of X G z_str,
    m_len := PySem.W.mg_none_of X G z_len,
    m_list := PySem.W.mg_none_of X G z_list,
    m_tuple := PySem.W.mg_none_of X G z_tuple,
    m_sorted := PySem.W.mg_none_of X G z_sorted,
    m_enumerate := PySem.W.mg_none_of X G z_enumerate,
    m_bool := PySem.W.mg_none_of X G z_bool,
    m_int := PySem.W.mg_none_of X G z_int,
    m_dict := PySem.W.mg_none_of X G z_dict,
    m_set := PySem.W.mg_none_of X G z_set,
    m_range := PySem.W.mg_none_of X G z_range,
    m_sum := PySem.W.mg_none_of X G z_sum,
    m_max := PySem.W.mg_none_of X G z_max,
    m_min := PySem.W.mg_none_of X G z_min,
    m_ValueError := PySem.W.mg_none_of X G z_ValueError,
    c_LETTERS_houses := ⟨_, PySem.W.mg_of X G n_LETTERS_houses, ⟨_, rfl⟩⟩,
    c_LONGEST_KIND := ⟨_, PySem.W.mg_of X G n_LONGEST_KIND, ⟨_, rfl⟩⟩,
    c_MOST_LOCKS_houses := ⟨_, PySem.W.mg_of X G n_MOST_LOCKS_houses, ⟨_, rfl⟩⟩,
    c_MOST_ROOMS_orders := ⟨_, PySem.W.mg_of X G n_MOST_ROOMS_orders, ⟨_, rfl⟩⟩,
    c_FIGURES := ⟨_, PySem.W.mg_of X G n_FIGURES, ⟨_, rfl⟩⟩,
    c_LETTERS_rows := ⟨_, PySem.W.mg_of X G n_LETTERS_rows, ⟨_, rfl⟩⟩,
    c_MOST_LETTERS := ⟨_, PySem.W.mg_of X G n_MOST_LETTERS, ⟨_, rfl⟩⟩,
    c_MOST_LOCKS_rows := ⟨_, PySem.W.mg_of X G n_MOST_LOCKS_rows, ⟨_, rfl⟩⟩,
    c_NUMBERS := kd_mk (PySem.W.mg_of X G n_NUMBERS) dw_NUMBERS (by simp only [List.forall_mem_cons]; exact ⟨⟨_, v_NUMBERS_0⟩, ⟨_, v_NUMBERS_1⟩, ⟨_, v_NUMBERS_2⟩, ⟨_, v_NUMBERS_3⟩, ⟨_, v_NUMBERS_4⟩, ⟨_, v_NUMBERS_5⟩, ⟨_, v_NUMBERS_6⟩, ⟨_, v_NUMBERS_7⟩, ⟨_, v_NUMBERS_8⟩, ⟨_, v_NUMBERS_9⟩, ⟨_, v_NUMBERS_10⟩, ⟨_, v_NUMBERS_11⟩, ⟨_, v_NUMBERS_12⟩, ⟨_, v_NUMBERS_13⟩, ⟨_, v_NUMBERS_14⟩, ⟨_, v_NUMBERS_15⟩, fun _ h => nomatch h⟩),
    c_MOST_ROOMS_desk := ⟨_, PySem.W.mg_of X G n_MOST_ROOMS_desk, ⟨_, rfl⟩⟩ }
  exact ⟨_, fun s v => .of_eq rfl, fun base _ _ => ok_law T⟩
end Kr
open PySem PySem.W PyProof.Rows
set_option maxHeartbeats 0 in
theorem PySem.Challenge.cw_keyrooms_k53_rows_that_keep_holds : PySem.Challenge.rw_keyrooms_k53_rows_that_keep.Holds := by
  w_on; o_law; k_head; (case hw => w_witness2)
  k_fill
  refine L2.walk_of (l := PySem.Challenge.rw_keyrooms_k53_rows_that_keep) (n := 63) (k := 11) (x := "script") (CX := fun _ => L2.CX0) (sp := fun w => Kr.spLaw _) rfl (by decide) rfl ⟨rfl, by decide, by decide⟩ (fun w h Y => PySem.W.kIn_of Y) ?F (fun _ _ a ns hl _ hS => ⟨a, ns, rfl, hS, hl, fun _ => rfl⟩) (fun _ _ _ _ _ h => h)
  case F =>
    intro w mg fa h KX G hmg
    refine' Kr.all_mk KX G hmg ?a_is_kind_houses ?l_is_kind_houses ?e_is_kind_houses ?k_is_kind_houses ?a_are_keys ?l_are_keys ?e_are_keys ?k_are_keys ?a_is_room ?l_is_room ?e_is_room ?k_is_room ?a_is_house ?l_is_house ?e_is_house ?k_is_house ?a_need_house ?l_need_house ?e_need_house ?k_need_house ?a_is_plain ?l_is_plain ?e_is_plain ?k_is_plain ?a_may_be_opened ?l_may_be_opened ?e_may_be_opened ?k_may_be_opened ?a_walked ?l_walked ?e_walked ?k_walked ?a_keys_behind ?l_keys_behind ?e_keys_behind ?k_keys_behind ?a_next_rooms ?l_next_rooms ?e_next_rooms ?k_next_rooms ?a_kinds_counted ?l_kinds_counted ?e_kinds_counted ?k_kinds_counted ?a_kinds_that_come ?l_kinds_that_come ?e_kinds_that_come ?k_kinds_that_come ?a_rooms_that_come ?l_rooms_that_come ?e_rooms_that_come ?k_rooms_that_come ?a_need_plain ?l_need_plain ?e_need_plain ?k_need_plain ?a_kinds_short ?l_kinds_short ?e_kinds_short ?k_kinds_short ?a_can_all ?l_can_all ?e_can_all ?k_can_all ?a_house_left ?l_house_left ?e_house_left ?k_house_left ?a_hand_behind ?l_hand_behind ?e_hand_behind ?k_hand_behind ?a_leads_on ?l_leads_on ?e_leads_on ?k_leads_on ?a_order_of_all ?l_order_of_all ?e_order_of_all ?k_order_of_all ?a_shut_kinds ?l_shut_kinds ?e_shut_kinds ?k_shut_kinds ?a_told_opening ?l_told_opening ?e_told_opening ?k_told_opening ?a_kinds_lacking ?l_kinds_lacking ?e_kinds_lacking ?k_kinds_lacking ?a_kinds_led_to ?l_kinds_led_to ?e_kinds_led_to ?k_kinds_led_to ?a_shut_groups ?l_shut_groups ?e_shut_groups ?k_shut_groups ?a_keys_to_buy ?l_keys_to_buy ?e_keys_to_buy ?k_keys_to_buy ?a_first_order ?l_first_order ?e_first_order ?k_first_order ?a_need_few ?l_need_few ?e_need_few ?k_need_few ?a_counted_kinds ?l_counted_kinds ?e_counted_kinds ?k_counted_kinds ?a_how_many_orders ?l_how_many_orders ?e_how_many_orders ?k_how_many_orders ?a_nth_order ?l_nth_order ?e_nth_order ?k_nth_order ?a_rooms_of ?l_rooms_of ?e_rooms_of ?k_rooms_of ?a_sets_that_come ?l_sets_that_come ?e_sets_that_come ?k_sets_that_come ?a_need_worths ?l_need_worths ?e_need_worths ?k_need_worths ?a_worth_of ?l_worth_of ?e_worth_of ?k_worth_of ?a_most_rooms ?l_most_rooms ?e_most_rooms ?k_most_rooms ?a_most_worth ?l_most_worth ?e_most_worth ?k_most_worth ?a_all_of ?l_all_of ?e_all_of ?k_all_of ?a_is_kind_rows ?l_is_kind_rows ?e_is_kind_rows ?k_is_kind_rows ?a_is_number ?l_is_number ?e_is_number ?k_is_number ?a_keys_asked ?l_keys_asked ?e_keys_asked ?k_keys_asked ?a_locks_asked ?l_locks_asked ?e_locks_asked ?k_locks_asked ?a_joined_words ?l_joined_words ?e_joined_words ?k_joined_words ?a_words_asked ?l_words_asked ?e_words_asked ?k_words_asked ?a_show_keys ?l_show_keys ?e_show_keys ?k_show_keys ?a_show_room ?l_show_room ?e_show_room ?k_show_room ?a_show_house ?l_show_house ?e_show_house ?k_show_house ?a_opening_words ?l_opening_words ?e_opening_words ?k_opening_words ?a_law_cell_at ?l_law_cell_at ?e_law_cell_at ?k_law_cell_at ?a_law_numbers ?l_law_numbers ?e_law_numbers ?k_law_numbers ?a_law_deck ?l_law_deck ?e_law_deck ?k_law_deck ?a_law_take ?l_law_take ?e_law_take ?k_law_take ?a_law_kind ?l_law_kind ?e_law_kind ?k_law_kind ?a_law_keys ?l_law_keys ?e_law_keys ?k_law_keys ?a_law_house ?l_law_house ?e_law_house ?k_law_house ?a_law_keys_written ?l_law_keys_written ?e_law_keys_written ?k_law_keys_written ?a_law_lines ?l_law_lines ?e_law_lines ?k_law_lines ?a_law_hand ?l_law_hand ?e_law_hand ?k_law_hand ?a_law_next ?l_law_next ?e_law_next ?k_law_next ?a_law_words ?l_law_words ?e_law_words ?k_law_words ?a_law_said ?l_law_said ?e_law_said ?k_law_said ?a_law_house_rows ?l_law_house_rows ?e_law_house_rows ?k_law_house_rows ?a_law_row ?l_law_row ?e_law_row ?k_law_row ?a_law_as_kept ?l_law_as_kept ?e_law_as_kept ?k_law_as_kept ?a_law ?l_law ?e_law ?k_law ?e_Opened ?cg_Opened ?ch_Opened ?co_Opened ?cs_Opened ?cm_Opened ?ck_Opened ?na_Opened_locks ?na_Opened_within ?na_Opened_many ?na_Opened_all_rooms ?na_Opened_hands ?na_Opened_goings ?na_Opened_ends ?i_Opened_init ?n_Opened_init ?l_Opened_init ?e_Opened_init ?k_Opened_init ?i_Opened_hand_at ?n_Opened_hand_at ?l_Opened_hand_at ?e_Opened_hand_at ?k_Opened_hand_at ?i_Opened_next_at ?n_Opened_next_at ?l_Opened_next_at ?e_Opened_next_at ?k_Opened_next_at ?i_Opened_to_all ?n_Opened_to_all ?l_Opened_to_all ?e_Opened_to_all ?k_Opened_to_all ?e_Desk ?cg_Desk ?ch_Desk ?co_Desk ?cs_Desk ?cm_Desk ?ck_Desk ?na_Desk_first_keys ?na_Desk_rooms_here ?na_Desk_worths ?na_Desk_gone_here ?i_Desk_init ?n_Desk_init ?l_Desk_init ?e_Desk_init ?k_Desk_init ?i_Desk_begin_anew ?n_Desk_begin_anew ?l_Desk_begin_anew ?e_Desk_begin_anew ?k_Desk_begin_anew ?i_Desk_house ?n_Desk_house ?l_Desk_house ?e_Desk_house ?k_Desk_house ?i_Desk_put_room ?n_Desk_put_room ?l_Desk_put_room ?e_Desk_put_room ?k_Desk_put_room ?i_Desk_changed ?n_Desk_changed ?l_Desk_changed ?e_Desk_changed ?k_Desk_changed ?i_Desk_stands ?n_Desk_stands ?l_Desk_stands ?e_Desk_stands ?k_Desk_stands ?i_Desk_told ?n_Desk_told ?l_Desk_told ?e_Desk_told ?k_Desk_told ?i_Desk_say ?n_Desk_say ?l_Desk_say ?e_Desk_say ?k_Desk_say ?z_isinstance ?z_str ?z_len ?z_list ?z_tuple ?z_sorted ?z_enumerate ?z_bool ?z_int ?z_dict ?z_set ?z_range ?z_sum ?z_max ?z_min ?z_ValueError ?n_LETTERS_houses ?n_LONGEST_KIND ?n_MOST_LOCKS_houses ?n_MOST_ROOMS_orders ?n_FIGURES ?n_LETTERS_rows ?n_MOST_LETTERS ?n_MOST_LOCKS_rows ?n_NUMBERS ?dw_NUMBERS ?v_NUMBERS_0 ?v_NUMBERS_1 ?v_NUMBERS_2 ?v_NUMBERS_3 ?v_NUMBERS_4 ?v_NUMBERS_5 ?v_NUMBERS_6 ?v_NUMBERS_7 ?v_NUMBERS_8 ?v_NUMBERS_9 ?v_NUMBERS_10 ?v_NUMBERS_11 ?v_NUMBERS_12 ?v_NUMBERS_13 ?v_NUMBERS_14 ?v_NUMBERS_15 ?n_MOST_ROOMS_desk ?a_KeyroomError ?a_NoHouse ?a_NoPlain ?a_NoOrder ?a_NoNumber ?a_NoKind ?a_TooMany ?a_NoText ?a_NoRow ?a_NoStep ?w_n ?w_t ?xk_TooMany ?xs_TooMany ?xt_TooMany ?xi_TooMany ?xg_TooMany ?xa_TooMany ?xd_TooMany ?xc_TooMany ?xm_TooMany ?xq_TooMany ?xk_NoStep ?xs_NoStep ?xt_NoStep ?xi_NoStep ?xg_NoStep ?xa_NoStep ?xd_NoStep ?xc_NoStep ?xm_NoStep ?ns_NoRow ?nt_NoRow ?ni_NoRow ?u_TooMany_NoRow ?u_NoStep_NoRow ?u_TooMany_NoStep ?u_NoStep_NoStep ?ns_NoPlain ?nt_NoPlain ?ni_NoPlain ?u_TooMany_NoPlain ?u_NoStep_NoPlain ?ns_NoHouse ?nt_NoHouse ?ni_NoHouse ?u_TooMany_NoHouse ?u_NoStep_NoHouse ?ns_NoKind ?nt_NoKind ?ni_NoKind ?u_TooMany_NoKind ?u_NoStep_NoKind ?ns_NoOrder ?nt_NoOrder ?ni_NoOrder ?u_TooMany_NoOrder ?u_NoStep_NoOrder ?ns_NoText ?nt_NoText ?ni_NoText ?u_TooMany_NoText ?u_NoStep_NoText ?ns_NoNumber ?nt_NoNumber ?ni_NoNumber ?u_TooMany_NoNumber ?u_NoStep_NoNumber ?u_TooMany_TooMany ?u_NoStep_TooMany ?u_TooMany_ValueError ?u_NoStep_ValueError ?ns_KeyroomError ?nt_KeyroomError ?ni_KeyroomError ?ne_TooMany ?ne_NoStep ?u_TooMany_KeyroomError ?u_NoStep_KeyroomError ?z_E ?st_l ?st_s ?st_i ?st_t ?st_n ?st_p ?st_r ?st_f ?l_init ?e_init ?k_init
    case a_is_kind_houses => k_is
    case l_is_kind_houses => k_is
    case e_is_kind_houses => k_is
    case k_is_kind_houses => k_is
    case a_are_keys => k_is
    case l_are_keys => k_is
    case e_are_keys => k_is
    case k_are_keys => k_is
    case a_is_room => k_is
    case l_is_room => k_is
    case e_is_room => k_is
    case k_is_room => k_is
    case a_is_house => k_is
    case l_is_house => k_is
    case e_is_house => k_is
    case k_is_house => k_is
    case a_need_house => k_is
    case l_need_house => k_is
    case e_need_house => k_is
    case k_need_house => k_is
    case a_is_plain => k_is
    case l_is_plain => k_is
    case e_is_plain => k_is
    case k_is_plain => k_is
    case a_may_be_opened => k_is
    case l_may_be_opened => k_is
    case e_may_be_opened => k_is
    case k_may_be_opened => k_is
    case a_walked => k_is
    case l_walked => k_is
    case e_walked => k_is
    case k_walked => k_is
    case a_keys_behind => k_is
    case l_keys_behind => k_is
    case e_keys_behind => k_is
    case k_keys_behind => k_is
    case a_next_rooms => k_is
    case l_next_rooms => k_is
    case e_next_rooms => k_is
    case k_next_rooms => k_is
    case a_kinds_counted => k_is
    case l_kinds_counted => k_is
    case e_kinds_counted => k_is
    case k_kinds_counted => k_is
    case a_kinds_that_come => k_is
    case l_kinds_that_come => k_is
    case e_kinds_that_come => k_is
    case k_kinds_that_come => k_is
    case a_rooms_that_come => k_is
    case l_rooms_that_come => k_is
    case e_rooms_that_come => k_is
    case k_rooms_that_come => k_is
    case a_need_plain => k_is
    case l_need_plain => k_is
    case e_need_plain => k_is
    case k_need_plain => k_is
    case a_kinds_short => k_is
    case l_kinds_short => k_is
    case e_kinds_short => k_is
    case k_kinds_short => k_is
    case a_can_all => k_is
    case l_can_all => k_is
    case e_can_all => k_is
    case k_can_all => k_is
    case a_house_left => k_is
    case l_house_left => k_is
    case e_house_left => k_is
    case k_house_left => k_is
    case a_hand_behind => k_is
    case l_hand_behind => k_is
    case e_hand_behind => k_is
    case k_hand_behind => k_is
    case a_leads_on => k_is
    case l_leads_on => k_is
    case e_leads_on => k_is
    case k_leads_on => k_is
    case a_order_of_all => k_is
    case l_order_of_all => k_is
    case e_order_of_all => k_is
    case k_order_of_all => k_is
    case a_shut_kinds => k_is
    case l_shut_kinds => k_is
    case e_shut_kinds => k_is
    case k_shut_kinds => k_is
    case a_told_opening => k_is
    case l_told_opening => k_is
    case e_told_opening => k_is
    case k_told_opening => k_is
    case a_kinds_lacking => k_is
    case l_kinds_lacking => k_is
    case e_kinds_lacking => k_is
    case k_kinds_lacking => k_is
    case a_kinds_led_to => k_is
    case l_kinds_led_to => k_is
    case e_kinds_led_to => k_is
    case k_kinds_led_to => k_is
    case a_shut_groups => k_is
    case l_shut_groups => k_is
    case e_shut_groups => k_is
    case k_shut_groups => k_is
    case a_keys_to_buy => k_is
    case l_keys_to_buy => k_is
    case e_keys_to_buy => k_is
    case k_keys_to_buy => k_is
    case a_first_order => k_is
    case l_first_order => k_is
    case e_first_order => k_is
    case k_first_order => k_is
    case a_need_few => k_is
    case l_need_few => k_is
    case e_need_few => k_is
    case k_need_few => k_is
    case a_counted_kinds => k_is
    case l_counted_kinds => k_is
    case e_counted_kinds => k_is
    case k_counted_kinds => k_is
    case a_how_many_orders => k_is
    case l_how_many_orders => k_is
    case e_how_many_orders => k_is
    case k_how_many_orders => k_is
    case a_nth_order => k_is
    case l_nth_order => k_is
    case e_nth_order => k_is
    case k_nth_order => k_is
    case a_rooms_of => k_is
    case l_rooms_of => k_is
    case e_rooms_of => k_is
    case k_rooms_of => k_is
    case a_sets_that_come => k_is
    case l_sets_that_come => k_is
    case e_sets_that_come => k_is
    case k_sets_that_come => k_is
    case a_need_worths => k_is
    case l_need_worths => k_is
    case e_need_worths => k_is
    case k_need_worths => k_is
    case a_worth_of => k_is
    case l_worth_of => k_is
    case e_worth_of => k_is
    case k_worth_of => k_is
    case a_most_rooms => k_is
    case l_most_rooms => k_is
    case e_most_rooms => k_is
    case k_most_rooms => k_is
    case a_most_worth => k_is
    case l_most_worth => k_is
    case e_most_worth => k_is
    case k_most_worth => k_is
    case a_all_of => k_is
    case l_all_of => k_is
    case e_all_of => k_is
    case k_all_of => k_is
    case a_is_kind_rows => k_is
    case l_is_kind_rows => k_is
    case e_is_kind_rows => k_is
    case k_is_kind_rows => k_is
    case a_is_number => k_is
    case l_is_number => k_is
    case e_is_number => k_is
    case k_is_number => k_is
    case a_keys_asked => k_is
    case l_keys_asked => k_is
    case e_keys_asked => k_is
    case k_keys_asked => k_is
    case a_locks_asked => k_is
    case l_locks_asked => k_is
    case e_locks_asked => k_is
    case k_locks_asked => k_is
    case a_joined_words => k_is
    case l_joined_words => k_is
    case e_joined_words => k_is
    case k_joined_words => k_is
    case a_words_asked => k_is
    case l_words_asked => k_is
    case e_words_asked => k_is
    case k_words_asked => k_is
    case a_show_keys => k_is
    case l_show_keys => k_is
    case e_show_keys => k_is
    case k_show_keys => k_is
    case a_show_room => k_is
    case l_show_room => k_is
    case e_show_room => k_is
    case k_show_room => k_is
    case a_show_house => k_is
    case l_show_house => k_is
    case e_show_house => k_is
    case k_show_house => k_is
    case a_opening_words => k_is
    case l_opening_words => k_is
    case e_opening_words => k_is
    case k_opening_words => k_is
    case a_law_cell_at => k_is
    case l_law_cell_at => k_is
    case e_law_cell_at => k_is
    case k_law_cell_at => k_is
    case a_law_numbers => k_is
    case l_law_numbers => k_is
    case e_law_numbers => k_is
    case k_law_numbers => k_is
    case a_law_deck => k_is
    case l_law_deck => k_is
    case e_law_deck => k_is
    case k_law_deck => k_is
    case a_law_take => k_is
    case l_law_take => k_is
    case e_law_take => k_is
    case k_law_take => k_is
    case a_law_kind => k_is
    case l_law_kind => k_is
    case e_law_kind => k_is
    case k_law_kind => k_is
    case a_law_keys => k_is
    case l_law_keys => k_is
    case e_law_keys => k_is
    case k_law_keys => k_is
    case a_law_house => k_is
    case l_law_house => k_is
    case e_law_house => k_is
    case k_law_house => k_is
    case a_law_keys_written => k_is
    case l_law_keys_written => k_is
    case e_law_keys_written => k_is
    case k_law_keys_written => k_is
    case a_law_lines => k_is
    case l_law_lines => k_is
    case e_law_lines => k_is
    case k_law_lines => k_is
    case a_law_hand => k_is
    case l_law_hand => k_is
    case e_law_hand => k_is
    case k_law_hand => k_is
    case a_law_next => k_is
    case l_law_next => k_is
    case e_law_next => k_is
    case k_law_next => k_is
    case a_law_words => k_is
    case l_law_words => k_is
    case e_law_words => k_is
    case k_law_words => k_is
    case a_law_said => k_is
    case l_law_said => k_is
    case e_law_said => k_is
    case k_law_said => k_is
    case a_law_house_rows => k_is
    case l_law_house_rows => k_is
    case e_law_house_rows => k_is
    case k_law_house_rows => k_is
    case a_law_row => k_is
    case l_law_row => k_is
    case e_law_row => k_is
    case k_law_row => k_is
    case a_law_as_kept => k_is
    case l_law_as_kept => k_is
    case e_law_as_kept => k_is
    case k_law_as_kept => k_is
    case a_law => k_is
    case l_law => k_is
    case e_law => k_is
    case k_law => k_is
    case e_Opened => k_is
    case cg_Opened => k_is
    case ch_Opened => k_is
    case co_Opened => k_is
    case cs_Opened => k_is
    case cm_Opened => k_is
    case ck_Opened => k_is
    case na_Opened_locks => k_is
    case na_Opened_within => k_is
    case na_Opened_many => k_is
    case na_Opened_all_rooms => k_is
    case na_Opened_hands => k_is
    case na_Opened_goings => k_is
    case na_Opened_ends => k_is
    case i_Opened_init => k_is
    case n_Opened_init => k_is
    case l_Opened_init => k_is
    case e_Opened_init => k_is
    case k_Opened_init => k_is
    case i_Opened_hand_at => k_is
    case n_Opened_hand_at => k_is
    case l_Opened_hand_at => k_is
    case e_Opened_hand_at => k_is
    case k_Opened_hand_at => k_is
    case i_Opened_next_at => k_is
    case n_Opened_next_at => k_is
    case l_Opened_next_at => k_is
    case e_Opened_next_at => k_is
    case k_Opened_next_at => k_is
    case i_Opened_to_all => k_is
    case n_Opened_to_all => k_is
    case l_Opened_to_all => k_is
    case e_Opened_to_all => k_is
    case k_Opened_to_all => k_is
    case e_Desk => k_is
    case cg_Desk => k_is
    case ch_Desk => k_is
    case co_Desk => k_is
    case cs_Desk => k_is
    case cm_Desk => k_is
    case ck_Desk => k_is
    case na_Desk_first_keys => k_is
    case na_Desk_rooms_here => k_is
    case na_Desk_worths => k_is
    case na_Desk_gone_here => k_is
    case i_Desk_init => k_is
    case n_Desk_init => k_is
    case l_Desk_init => k_is
    case e_Desk_init => k_is
    case k_Desk_init => k_is
    case i_Desk_begin_anew => k_is
    case n_Desk_begin_anew => k_is
    case l_Desk_begin_anew => k_is
    case e_Desk_begin_anew => k_is
    case k_Desk_begin_anew => k_is
    case i_Desk_house => k_is
    case n_Desk_house => k_is
    case l_Desk_house => k_is
    case e_Desk_house => k_is
    case k_Desk_house => k_is
    case i_Desk_put_room => k_is
    case n_Desk_put_room => k_is
    case l_Desk_put_room => k_is
    case e_Desk_put_room => k_is
    case k_Desk_put_room => k_is
    case i_Desk_changed => k_is
    case n_Desk_changed => k_is
    case l_Desk_changed => k_is
    case e_Desk_changed => k_is
    case k_Desk_changed => k_is
    case i_Desk_stands => k_is
    case n_Desk_stands => k_is
    case l_Desk_stands => k_is
    case e_Desk_stands => k_is
    case k_Desk_stands => k_is
    case i_Desk_told => k_is
    case n_Desk_told => k_is
    case l_Desk_told => k_is
    case e_Desk_told => k_is
    case k_Desk_told => k_is
    case i_Desk_say => k_is
    case n_Desk_say => k_is
    case l_Desk_say => k_is
    case e_Desk_say => k_is
    case k_Desk_say => k_is
    case z_isinstance => k_is
    case z_str => k_is
    case z_len => k_is
    case z_list => k_is
    case z_tuple => k_is
    case z_sorted => k_is
    case z_enumerate => k_is
    case z_bool => k_is
    case z_int => k_is
    case z_dict => k_is
    case z_set => k_is
    case z_range => k_is
    case z_sum => k_is
    case z_max => k_is
    case z_min => k_is
    case z_ValueError => k_is
    case n_LETTERS_houses => k_is
    case n_LONGEST_KIND => k_is
    case n_MOST_LOCKS_houses => k_is
    case n_MOST_ROOMS_orders => k_is
    case n_FIGURES => k_is
    case n_LETTERS_rows => k_is
    case n_MOST_LETTERS => k_is
    case n_MOST_LOCKS_rows => k_is
    case n_NUMBERS => k_is
    case dw_NUMBERS => first | k_is | rfl
    case v_NUMBERS_0 => k_is
    case v_NUMBERS_1 => k_is
    case v_NUMBERS_2 => k_is
    case v_NUMBERS_3 => k_is
    case v_NUMBERS_4 => k_is
    case v_NUMBERS_5 => k_is
    case v_NUMBERS_6 => k_is
    case v_NUMBERS_7 => k_is
    case v_NUMBERS_8 => k_is
    case v_NUMBERS_9 => k_is
    case v_NUMBERS_10 => k_is
    case v_NUMBERS_11 => k_is
    case v_NUMBERS_12 => k_is
    case v_NUMBERS_13 => k_is
    case v_NUMBERS_14 => k_is
    case v_NUMBERS_15 => k_is
    case n_MOST_ROOMS_desk => k_is
    case a_KeyroomError => k_is
    case a_NoHouse => k_is
    case a_NoPlain => k_is
    case a_NoOrder => k_is
    case a_NoNumber => k_is
    case a_NoKind => k_is
    case a_TooMany => k_is
    case a_NoText => k_is
    case a_NoRow => k_is
    case a_NoStep => k_is
    case w_n => k_is
    case w_t => k_is
    case xk_TooMany => k_is
    case xs_TooMany => k_is
    case xt_TooMany => k_is
    case xi_TooMany => k_is
    case xg_TooMany => k_is
    case xa_TooMany => k_is
    case xd_TooMany => k_is
    case xc_TooMany => k_is
    case xm_TooMany => k_is
    case xq_TooMany => k_exc
    case xk_NoStep => k_is
    case xs_NoStep => k_is
    case xt_NoStep => k_is
    case xi_NoStep => k_is
    case xg_NoStep => k_is
    case xa_NoStep => k_is
    case xd_NoStep => k_is
    case xc_NoStep => k_is
    case xm_NoStep => k_is
    case ns_NoRow => k_is
    case nt_NoRow => k_is
    case ni_NoRow => k_is
    case u_TooMany_NoRow => first | k_is | rfl
    case u_NoStep_NoRow => first | k_is | rfl
    case u_TooMany_NoStep => first | k_is | rfl
    case u_NoStep_NoStep => first | k_is | rfl
    case ns_NoPlain => k_is
    case nt_NoPlain => k_is
    case ni_NoPlain => k_is
    case u_TooMany_NoPlain => first | k_is | rfl
    case u_NoStep_NoPlain => first | k_is | rfl
    case ns_NoHouse => k_is
    case nt_NoHouse => k_is
    case ni_NoHouse => k_is
    case u_TooMany_NoHouse => first | k_is | rfl
    case u_NoStep_NoHouse => first | k_is | rfl
    case ns_NoKind => k_is
    case nt_NoKind => k_is
    case ni_NoKind => k_is
    case u_TooMany_NoKind => first | k_is | rfl
    case u_NoStep_NoKind => first | k_is | rfl
    case ns_NoOrder => k_is
    case nt_NoOrder => k_is
    case ni_NoOrder => k_is
    case u_TooMany_NoOrder => first | k_is | rfl
    case u_NoStep_NoOrder => first | k_is | rfl
    case ns_NoText => k_is
    case nt_NoText => k_is
    case ni_NoText => k_is
    case u_TooMany_NoText => first | k_is | rfl
    case u_NoStep_NoText => first | k_is | rfl
    case ns_NoNumber => k_is
    case nt_NoNumber => k_is
    case ni_NoNumber => k_is
    case u_TooMany_NoNumber => first | k_is | rfl
    case u_NoStep_NoNumber => first | k_is | rfl
    case u_TooMany_TooMany => first | k_is | rfl
    case u_NoStep_TooMany => first | k_is | rfl
    case u_TooMany_ValueError => first | k_is | rfl
    case u_NoStep_ValueError => first | k_is | rfl
    case ns_KeyroomError => k_is
    case nt_KeyroomError => k_is
    case ni_KeyroomError => k_is
    case ne_TooMany => decide
    case ne_NoStep => decide
    case u_TooMany_KeyroomError => first | k_is | rfl
    case u_NoStep_KeyroomError => first | k_is | rfl
    case z_E => decide
    case st_l => k_is
    case st_s => k_is
    case st_i => k_is
    case st_t => k_is
    case st_n => k_is
    case st_p => k_is
    case st_r => k_is
    case st_f => k_is
    case l_init => k_is
    case e_init => k_is
    case k_init => k_is
