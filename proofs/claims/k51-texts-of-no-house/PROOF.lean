import PyProof.Rows.All
import Wide.All
import OpenK.AllK
import Wide.FinOn
import HandS.Base
import HandS.Call
import HandS.List
import HandS.Comp
import HandS.Ends
import HandS.Dict
import HandS.Iter
import HandS.Text
import HandS.Words
import HandS.WordsList
import HandS.IsInst
import HandS.Exc
import PyProof.Rows.SortShellAny
import HandS.Set
import HandS.SetFor
import HandS.Strs
import HandS.SortInts
import PyProof.SeqRoads2
import HandS.TryOnly
import HandS.WordsDict
import HandS.Finally
import HandS.Style
import HandS.More
import HandS.Conv
import HandS.Deep
import HandS.TupAny
import KE.SortData
import PyProof.SetRoads
import PyProof.ReprRoads
import KE.KDictZip
import HandS.WordsExc
import HandS.Sort
import KE.KDictSum
import HandS.ExcIs
import KE.KExcIs
import HandS.ExcInit
import HandS.ExcField
import PyProof.CallFns
import HandS.WideBits
import KE.KDictDisplayH
import KE.DataCmp
import KE.KxWritten
import PyProof.EnumMake
import PyProof.StrBlock2
import HandS.Wide
import KE.SortKeyHeap
import HandS.RaiseMore
import KE.KEqNest
import KE.DataMinMax
import HandS.ReplaceLit
import HandS.HeadHook3
import HandS.Flow
import KE.KIntText
import HandS.ExcOwn
import KE.KExcStr
import PyProof.Rows.StrRev
import PyProof.CallStr
import PySem.Challenge.RW_keyrooms_k51_texts_of_no_house
set_option Elab.async false
set_option linter.all false
set_option maxRecDepth 100000
set_option maxHeartbeats 4000000
/-! layer Kr1 -/
namespace Kr
open PySem L2
/-! ## data in the abstract heap -/
/-- a dict's key as data -/
def KeyD : PyData → Key → Prop
  | .int i, .inl j => i = j
  | .str x, .inr y => x = y
  | _, _ => False
/-- an error of a class of the program's own, as data: its class's address, and what its field at holds, if it has one -/
def exK (C : Addr) (y : PyData) : List (PyData × PyData) := [(.none, .tuple [.int C, y])]
def noExK : List (PyData × PyData) → Bool
  | (.none, _) :: _ => false
  | _ => true
def noEx : PyData → Bool
  | .dict kvs => noExK kvs
  | _ => true
def ExP (C : Addr) (d : Option Addr) (a : Addr) : Heap → Prop := fun h => ∃ oe vs, h.get? a = some oe ∧ Zc (.ref C) d oe ∧ oe.data = .fields vs
def AtOk (H : Hp) (y : PyData) (d : Option Addr) : Prop := (y = .list [] ∧ d = none) ∨ ∃ dd i w, y = .list [i] ∧ d = some dd ∧ H dd = some (.xd [(("at" : Str), w)]) ∧ ((i = .none ∧ w = .non) ∨ ∃ n, i = .int n ∧ w = .int n)
def ExV (H : Hp) (kvs : List (PyData × PyData)) (v : V) : Prop := ∃ a C d y, kvs = exK C y ∧ v = .ref a ∧ H a = some (.ext (ExP C d a)) ∧ AtOk H y d
theorem AtOk.mono {H H' : Hp} {y : PyData} {d : Option Addr} (s : Same H H') (h : AtOk H y d) : AtOk H' y d := by
  rcases h with h | ⟨dd, i, w, h1, h2, h3, h4⟩
  · exact .inl h
  · exact .inr ⟨dd, i, w, h1, h2, s _ _ h3, h4⟩
theorem ExV.mono {H H' : Hp} {kvs : List (PyData × PyData)} {v : V} (s : Same H H') (h : ExV H kvs v) : ExV H' kvs v := by
  obtain ⟨a, C, d, y, h1, h2, h3, h4⟩ := h
  exact ⟨a, C, d, y, h1, h2, s _ _ h3, h4.mono s⟩
theorem ExV.no {H : Hp} {kvs : List (PyData × PyData)} {v : V} (h : ExV H kvs v) (n : noExK kvs = true) : False := by
  obtain ⟨a, C, d, y, rfl, _⟩ := h
  cases n
mutual
def Da (H : Hp) : PyData → V → Prop
  | .none, v => v = .non
  | .bool b, v => v = .bl b
  | .int i, v => v = .int i
  | .str x, v => v = .str x
  | .list ds, v => ∃ a xs, v = .ref a ∧ H a = some (.lst xs) ∧ DaAll H ds xs
  | .tuple ds, v => ∃ a xs, v = .ref a ∧ H a = some (.tup xs) ∧ DaAll H ds xs
  | .dict kvs, v => (∃ a es, v = .ref a ∧ Rd H a (.dK es) ∧ DaKV H kvs es) ∨ ExV H kvs v
def DaAll (H : Hp) : List PyData → List V → Prop
  | [], vs => vs = []
  | d :: ds, vs => ∃ v r, vs = v :: r ∧ Da H d v ∧ DaAll H ds r
def DaKV (H : Hp) : List (PyData × PyData) → List (Key × V) → Prop
  | [], es => es = []
  | (k, d) :: kvs, es => ∃ k' v r, es = (k', v) :: r ∧ KeyD k k' ∧ Da H d v ∧ DaKV H kvs r
end
mutual
theorem Da.mono {H H' : Hp} (s : Same H H') : ∀ {d : PyData} {v : V}, Da H d v → Da H' d v
  | .none, _, h => h
  | .bool _, _, h => h
  | .int _, _, h => h
  | .str _, _, h => h
  | .list ds, v, h => by
    obtain ⟨a, xs, e, h1, h2⟩ := (show ∃ a xs, v = .ref a ∧ H a = some (.lst xs) ∧ DaAll H ds xs from h)
    exact (show ∃ a xs, v = .ref a ∧ H' a = some (.lst xs) ∧ DaAll H' ds xs from ⟨a, xs, e, s _ _ h1, DaAll.mono s h2⟩)
  | .tuple ds, v, h => by
    obtain ⟨a, xs, e, h1, h2⟩ := (show ∃ a xs, v = .ref a ∧ H a = some (.tup xs) ∧ DaAll H ds xs from h)
    exact (show ∃ a xs, v = .ref a ∧ H' a = some (.tup xs) ∧ DaAll H' ds xs from ⟨a, xs, e, s _ _ h1, DaAll.mono s h2⟩)
  | .dict kvs, v, h => by
    rcases (show (∃ a es, v = .ref a ∧ Rd H a (.dK es) ∧ DaKV H kvs es) ∨ ExV H kvs v from h) with ⟨a, xs, e, h1, h2⟩ | hx
    · exact (show (∃ a es, v = .ref a ∧ Rd H' a (.dK es) ∧ DaKV H' kvs es) ∨ ExV H' kvs v from .inl ⟨a, xs, e, h1.elim (fun z => .inl (s _ _ z)) (fun ⟨o, z⟩ => .inr ⟨o, s _ _ z⟩), DaKV.mono s h2⟩)
    · exact (show (∃ a es, v = .ref a ∧ Rd H' a (.dK es) ∧ DaKV H' kvs es) ∨ ExV H' kvs v from .inr (hx.mono s))
theorem DaAll.mono {H H' : Hp} (s : Same H H') : ∀ {ds : List PyData} {vs : List V}, DaAll H ds vs → DaAll H' ds vs
  | [], _, h => h
  | d :: ds, vs, h => by
    obtain ⟨v, r, e, h1, h2⟩ := (show ∃ v r, vs = v :: r ∧ Da H d v ∧ DaAll H ds r from h)
    exact (show ∃ v r, vs = v :: r ∧ Da H' d v ∧ DaAll H' ds r from ⟨v, r, e, h1.mono s, DaAll.mono s h2⟩)
theorem DaKV.mono {H H' : Hp} (s : Same H H') : ∀ {kvs : List (PyData × PyData)} {es : List (Key × V)}, DaKV H kvs es → DaKV H' kvs es
  | [], _, h => h
  | (k, d) :: kvs, es, h => by
    obtain ⟨k', v, r, e, h0, h1, h2⟩ := (show ∃ k' v r, es = (k', v) :: r ∧ KeyD k k' ∧ Da H d v ∧ DaKV H kvs r from h)
    exact (show ∃ k' v r, es = (k', v) :: r ∧ KeyD k k' ∧ Da H' d v ∧ DaKV H' kvs r from ⟨k', v, r, e, h0, h1.mono s, DaKV.mono s h2⟩)
end
mutual
theorem Da.dp {K : PySem.W.Frag} {H : Hp} : ∀ {d : PyData} {v : V}, Da H d v → d.canLay0 = true → Dp K H v d
  | .none, v, h, _ => by obtain rfl : v = .non := h; exact .non
  | .bool b, v, h, _ => by obtain rfl : v = .bl b := h; exact .bl b
  | .int i, v, h, _ => by obtain rfl : v = .int i := h; exact .int i
  | .str x, v, h, _ => by obtain rfl : v = .str x := h; exact .str x
  | .list ds, v, h, c => by
    obtain ⟨a, xs, rfl, h1, h2⟩ := (show ∃ a xs, v = .ref a ∧ H a = some (.lst xs) ∧ DaAll H ds xs from h)
    exact .lst (SqL.of h1) (DaAll.dp h2 (by simpa [PyData.canLay0] using c))
  | .tuple ds, v, h, c => by
    obtain ⟨a, xs, rfl, h1, h2⟩ := (show ∃ a xs, v = .ref a ∧ H a = some (.tup xs) ∧ DaAll H ds xs from h)
    exact .tup (SqT.of h1) (DaAll.dp h2 (by simpa [PyData.canLay0] using c))
  | .dict _, _, h, c => by simp [PyData.canLay0] at c
theorem DaAll.dp {K : PySem.W.Frag} {H : Hp} : ∀ {ds : List PyData} {vs : List V}, DaAll H ds vs → PyData.canLayAll0 ds = true → DpAll K H vs ds
  | [], vs, h, _ => by obtain rfl : vs = [] := h; exact .nil
  | d :: ds, vs, h, c => by
    obtain ⟨v, r, rfl, h1, h2⟩ := (show ∃ v r, vs = v :: r ∧ Da H d v ∧ DaAll H ds r from h)
    have c' : d.canLay0 = true ∧ PyData.canLayAll0 ds = true := by simpa [PyData.canLayAll0] using c
    exact .cons (h1.dp c'.1) (DaAll.dp h2 c'.2)
end
theorem Da.dict {H : Hp} {kvs : List (PyData × PyData)} {v : V} (h : Da H (.dict kvs) v) (n : noExK kvs = true) : ∃ a es, v = .ref a ∧ Rd H a (.dK es) ∧ DaKV H kvs es := by
  rcases (show (∃ a es, v = .ref a ∧ Rd H a (.dK es) ∧ DaKV H kvs es) ∨ ExV H kvs v from h) with h | h
  · exact h
  · exact (h.no n).elim
theorem Da.ofDict {H : Hp} {kvs : List (PyData × PyData)} {a : Addr} {es : List (Key × V)} (h1 : Rd H a (.dK es)) (h2 : DaKV H kvs es) : Da H (.dict kvs) (.ref a) := (show (∃ b es, V.ref a = .ref b ∧ Rd H b (.dK es) ∧ DaKV H kvs es) ∨ ExV H kvs (.ref a) from .inl ⟨a, es, rfl, h1, h2⟩)
section
variable {H : Hp}
theorem daAll_nil : DaAll H [] [] := rfl
theorem daAll_cons {d : PyData} {ds : List PyData} {v : V} {vs : List V} (h : Da H d v) (t : DaAll H ds vs) : DaAll H (d :: ds) (v :: vs) := ⟨v, vs, rfl, h, t⟩
theorem DaAll.length : ∀ {ds : List PyData} {vs : List V}, DaAll H ds vs → vs.length = ds.length
  | [], _, h => by obtain rfl := (show _ = [] from h); rfl
  | d :: ds, _, h => by
    obtain ⟨v, r, rfl, _, h2⟩ := (show ∃ v r, _ = v :: r ∧ Da H d v ∧ DaAll H ds r from h)
    simp [DaAll.length h2]
theorem DaAll.get : ∀ {ds : List PyData} {vs : List V} {i : Nat} {d : PyData}, DaAll H ds vs → ds[i]? = some d → ∃ v, vs[i]? = some v ∧ Da H d v
  | [], _, _, _, _, e => by simp at e
  | d0 :: ds, _, i, d, h, e => by
    obtain ⟨v, r, rfl, h1, h2⟩ := (show ∃ v r, _ = v :: r ∧ Da H d0 v ∧ DaAll H ds r from h)
    cases i with
    | zero => simp at e; subst e; exact ⟨v, rfl, h1⟩
    | succ i => simpa using DaAll.get h2 (by simpa using e)
theorem DaAll.append : ∀ {ds es : List PyData} {vs us : List V}, DaAll H ds vs → DaAll H es us → DaAll H (ds ++ es) (vs ++ us)
  | [], _, _, _, h, h' => by obtain rfl := (show _ = [] from h); exact h'
  | d0 :: ds, _, _, _, h, h' => by
    obtain ⟨v0, r, rfl, h1, h2⟩ := (show ∃ v r, _ = v :: r ∧ Da H d0 v ∧ DaAll H ds r from h)
    exact daAll_cons h1 (DaAll.append h2 h')
theorem DaAll.snoc {ds : List PyData} {vs : List V} {d : PyData} {v : V} (h : DaAll H ds vs) (h' : Da H d v) : DaAll H (ds ++ [d]) (vs ++ [v]) := h.append (daAll_cons h' daAll_nil)
theorem DaAll.take : ∀ {ds : List PyData} {vs : List V} (n : Nat), DaAll H ds vs → DaAll H (ds.take n) (vs.take n)
  | [], _, n, h => by obtain rfl := (show _ = [] from h); simp [daAll_nil]
  | d0 :: ds, _, n, h => by
    obtain ⟨v0, r, rfl, h1, h2⟩ := (show ∃ v r, _ = v :: r ∧ Da H d0 v ∧ DaAll H ds r from h)
    cases n with
    | zero => exact daAll_nil
    | succ n => exact daAll_cons h1 (DaAll.take n h2)
theorem DaAll.drop : ∀ {ds : List PyData} {vs : List V} (n : Nat), DaAll H ds vs → DaAll H (ds.drop n) (vs.drop n)
  | [], _, n, h => by obtain rfl := (show _ = [] from h); simp [daAll_nil]
  | d0 :: ds, _, n, h => by
    obtain ⟨v0, r, rfl, h1, h2⟩ := (show ∃ v r, _ = v :: r ∧ Da H d0 v ∧ DaAll H ds r from h)
    cases n with
    | zero => exact daAll_cons h1 h2
    | succ n => exact DaAll.drop n h2
theorem daAll_strs : ∀ xs : List Str, DaAll H (xs.map .str) (xs.map V.str)
  | [] => daAll_nil
  | x :: xs => daAll_cons (show V.str x = V.str x from rfl) (daAll_strs xs)
theorem daAll_ints : ∀ xs : List Int, DaAll H (xs.map .int) (xs.map V.int)
  | [] => daAll_nil
  | x :: xs => daAll_cons (show V.int x = V.int x from rfl) (daAll_ints xs)
theorem DaAll.strs : ∀ {xs : List Str} {vs : List V}, DaAll H (xs.map .str) vs → vs = xs.map V.str
  | [], _, h => h
  | x :: xs, vs, h => by
    obtain ⟨v, r, rfl, h1, h2⟩ := (show ∃ v r, _ = v :: r ∧ Da H (.str x) v ∧ DaAll H (xs.map .str) r from h)
    obtain rfl : v = .str x := h1
    rw [DaAll.strs h2]; rfl
theorem DaAll.ints : ∀ {xs : List Int} {vs : List V}, DaAll H (xs.map .int) vs → vs = xs.map V.int
  | [], _, h => h
  | x :: xs, vs, h => by
    obtain ⟨v, r, rfl, h1, h2⟩ := (show ∃ v r, _ = v :: r ∧ Da H (.int x) v ∧ DaAll H (xs.map .int) r from h)
    obtain rfl : v = .int x := h1
    rw [DaAll.ints h2]; rfl
end
/-! ## heaps that grow: F what is told for good, H all -/
structure Gr (F H F2 H2 : Hp) : Prop where
  ff : Same F F2
  fh : Same F2 H2
  hh : Same H H2
  new : ∀ b, F b = none → H b ≠ none → F2 b = none
section
variable {F H F1 H1 F2 H2 F3 H3 : Hp} {p : Addr} {o : HO}
theorem Gr.refl (h : Same F H) : Gr F H F H := ⟨Same.refl _, h, Same.refl _, fun _ e _ => e⟩
theorem Gr.trans (a : Gr F H F1 H1) (b : Gr F1 H1 F2 H2) : Gr F H F2 H2 :=
  ⟨a.ff.trans b.ff, b.fh, a.hh.trans b.hh, fun q e n => b.new q (a.new q e n) (fun z => n (a.hh.free z))⟩
theorem same_upd (h : H p = none) : Same H (upd H p o) := fun b x e => by
  rw [upd_ne (ne_of_none e h)]
  exact e
theorem same_mut (s : Same F H) (h : F p = none) : Same F (upd H p o) := fun b x e => by
  rw [upd_ne (ne_of_none e h)]
  exact s _ _ e
theorem same_both (s : Same F H) : Same (upd F p o) (upd H p o) := fun b x e => by
  by_cases hb : b = p
  · subst hb; rw [upd_same] at e ⊢; exact e
  · rw [upd_ne hb] at e ⊢; exact s _ _ e
/-- a new object that stays open -/
theorem Gr.open' (g : Gr F H F1 H1) (h : H1 p = none) : Gr F H F1 (upd H1 p o) :=
  ⟨g.ff, same_mut g.fh (g.fh.free h), g.hh.trans (same_upd h), g.new⟩
/-- a new object that is told for good -/
theorem Gr.shut (g : Gr F H F1 H1) (h : H1 p = none) : Gr F H (upd F1 p o) (upd H1 p o) :=
  ⟨g.ff.trans (same_upd (g.fh.free h)), same_both g.fh, g.hh.trans (same_upd h), fun b e n => by
    have hb : b ≠ p := fun z => by subst z; exact n (g.hh.free h)
    rw [upd_ne hb]; exact g.new b e n⟩
/-- an open object of our own changes -/
theorem Gr.mut (g : Gr F H F1 H1) (h : H p = none) (h1 : F1 p = none) : Gr F H F1 (upd H1 p o) :=
  ⟨g.ff, same_mut g.fh h1, same_mut g.hh h, g.new⟩
/-- an open object of our own is told for good -/
theorem Gr.tell (g : Gr F H F1 H1) (h : H p = none) (h1 : F1 p = none) (ho : H1 p = some o) : Gr F H (upd F1 p o) H1 :=
  ⟨g.ff.trans (same_upd h1), fun b x e => by
    by_cases hb : b = p
    · subst hb; rw [upd_same] at e; rw [ho]; exact e
    · rw [upd_ne hb] at e; exact g.fh _ _ e, g.hh, fun b e n => by
    have hb : b ≠ p := fun z => by subst z; exact n h
    rw [upd_ne hb]; exact g.new b e n⟩
theorem Gr.da (g : Gr F H F1 H1) {d : PyData} {v : V} (h : Da F d v) : Da F1 d v := h.mono g.ff
theorem Gr.f0 (g : Gr F H F1 H1) (h : F p = none) (hH : H p = some o) : F1 p = none := g.new p h (by rw [hH]; exact fun z => nomatch z)
theorem Gr.same (g : Gr F H F1 H1) : Same F H1 := g.ff.trans g.fh
end
/-! ## what running a piece of text wants -/
section
variable (X : Cx)
def WE (e : Expr) (σ : St) (H : Hp) (Q : VK) : Prop := ∀ (pins : List (Addr × Obj)) (s : Shared), Inv X pins σ H s → wpAny (model X.prog X.w) X.A (eval e X.env) (EP X pins σ Q) X.xe s
def WT (e : Expr) (σ : St) (H : Hp) (Q : Bool → Hp → Prop) : Prop := ∀ (pins : List (Addr × Obj)) (s : Shared), Inv X pins σ H s → wpAny (model X.prog X.w) X.A (isTrue e X.env (eval e X.env)) (TP X pins σ Q) X.xe s
def WW (e : Expr) (σ : St) (H : Hp) (Q : Bool → Hp → Prop) : Prop := ∀ (whole : Sem Value) (pins : List (Addr × Obj)) (s : Shared), Inv X pins σ H s → wpAny (model X.prog X.w) X.A (isTrue e X.env whole) (TP X pins σ Q) X.xe s
def WA (es : List Expr) (σ : St) (H : Hp) (Q : List V → Hp → Prop) : Prop := ∀ (pos : Pos) (pins : List (Addr × Obj)) (s : Shared), Inv X pins σ H s → wpAny (model X.prog X.w) X.A (spliced (backTo pos (starEach es X.env))) (AP X pins σ Q) X.xe s
def WS (st : Stmt) (D : Ends) (σ : St) (H : Hp) : Prop := ∀ (pins : List (Addr × Obj)) (s : Shared), Inv X pins σ H s → wpAny (model X.prog X.w) X.A (exec st X.env) (SP X pins D) X.xe s
def WSs (st : List Stmt) (D : Ends) (σ : St) (H : Hp) : Prop := ∀ (pins : List (Addr × Obj)) (s : Shared), Inv X pins σ H s → wpAny (model X.prog X.w) X.A (execs st X.env) (SP X pins D) X.xe s
def WI (tg iter : Expr) (σ : St) (H : Hp) (R : It → Hp → Prop) : Prop := ∀ (pins : List (Addr × Obj)) (s : Shared), Inv X pins σ H s →
  wpAny (model X.prog X.w) X.A (eval iter X.env) (fun v s1 => wpAny (model X.prog X.w) X.A (pyIter v) (PIE X pins σ tg R) X.xe s1) X.xe s
end
section
variable {X : Cx}
theorem pe_we {e : Expr} : PE X e (WE X e) := ⟨fun pins s σ H Q I h => h pins s I⟩
theorem pt_wt {e : Expr} : PT X e (WT X e) := ⟨fun pins s σ H Q I h => h pins s I⟩
theorem pw_ww {e : Expr} : PW X e (WW X e) := ⟨fun whole pins s σ H Q I h => h whole pins s I⟩
theorem pa_wa {es : List Expr} : PA X es (WA X es) := ⟨fun pos pins s σ H Q I h => h pos pins s I⟩
theorem ps_ws {st : Stmt} : PS X st (WS X st) := ⟨fun pins s σ H D I h => h pins s I⟩
theorem pss_wss {st : List Stmt} : PSs X st (WSs X st) := ⟨fun pins s σ H D I h => h pins s I⟩
theorem pi_wi {tg iter : Expr} : PI X tg iter (WI X tg iter) := ⟨fun pins s σ H R I h => h pins s I⟩
theorem we_of {e : Expr} {t : TE} {σ : St} {H : Hp} {Q : VK} (h : PE X e t) (q : t σ H Q) : WE X e σ H Q := fun pins s I => h.run pins s σ H Q I q
theorem wt_of {e : Expr} {t : TT} {σ : St} {H : Hp} {Q : Bool → Hp → Prop} (h : PT X e t) (q : t σ H Q) : WT X e σ H Q := fun pins s I => h.run pins s σ H Q I q
theorem ww_of {e : Expr} {t : TT} {σ : St} {H : Hp} {Q : Bool → Hp → Prop} (h : PW X e t) (q : t σ H Q) : WW X e σ H Q := fun whole pins s I => h.run whole pins s σ H Q I q
theorem wa_of {es : List Expr} {t : TA} {σ : St} {H : Hp} {Q : List V → Hp → Prop} (h : PA X es t) (q : t σ H Q) : WA X es σ H Q := fun pos pins s I => h.run pos pins s σ H Q I q
theorem ws_of {st : Stmt} {t : TS} {σ : St} {H : Hp} {D : Ends} (h : PS X st t) (q : t D σ H) : WS X st D σ H := fun pins s I => h.run pins s σ H D I q
theorem wss_of {st : List Stmt} {t : TS} {σ : St} {H : Hp} {D : Ends} (h : PSs X st t) (q : t D σ H) : WSs X st D σ H := fun pins s I => h.run pins s σ H D I q
theorem wi_of {tg iter : Expr} {t : TI} {σ : St} {H : Hp} {R : It → Hp → Prop} (h : PI X tg iter t) (q : t σ H R) : WI X tg iter σ H R := fun pins s I => h.run pins s σ H R I q
theorem WE.imp {e : Expr} {σ : St} {H : Hp} {Q Q' : VK} (h : WE X e σ H Q) (q : ∀ v H', Q v H' → Q' v H') : WE X e σ H Q' := fun pins s I => thn (h pins s I) fun u s' ⟨v, H', I', r, k⟩ => ⟨v, H', I', r, q v H' k⟩
theorem WT.imp {e : Expr} {σ : St} {H : Hp} {Q Q' : Bool → Hp → Prop} (h : WT X e σ H Q) (q : ∀ v H', Q v H' → Q' v H') : WT X e σ H Q' := fun pins s I => thn (h pins s I) fun u s' ⟨H', I', k⟩ => ⟨H', I', q _ H' k⟩
end
/-! ## expressions that tell data -/
section
variable (X : Cx)
def DE (e : Expr) (σ : St) (F H : Hp) (d : PyData) : Prop := ∀ F1 H1, Gr F H F1 H1 → ∀ Q : VK, (∀ v F2 H2, Gr F1 H1 F2 H2 → Da F2 d v → Q v H2) → WE X e σ H1 Q
def DT (e : Expr) (σ : St) (F H : Hp) (b : Bool) : Prop := ∀ F1 H1, Gr F H F1 H1 → ∀ Q : Bool → Hp → Prop, (∀ F2 H2, Gr F1 H1 F2 H2 → Q b H2) → WT X e σ H1 Q
def DW (e : Expr) (σ : St) (F H : Hp) (b : Bool) : Prop := ∀ F1 H1, Gr F H F1 H1 → ∀ Q : Bool → Hp → Prop, (∀ F2 H2, Gr F1 H1 F2 H2 → Q b H2) → WW X e σ H1 Q
def DL (es : List Expr) (σ : St) (F H : Hp) (ds : List PyData) : Prop := ∀ F1 H1, Gr F H F1 H1 → ∀ Q : List V → Hp → Prop, (∀ vs F2 H2, Gr F1 H1 F2 H2 → DaAll F2 ds vs → Q vs H2) → WA X es σ H1 Q
/-- a value that is known -/
def VE (e : Expr) (σ : St) (F H : Hp) (v : V) : Prop := ∀ F1 H1, Gr F H F1 H1 → ∀ Q : VK, (∀ F2 H2, Gr F1 H1 F2 H2 → Q v H2) → WE X e σ H1 Q
end
section
variable {X : Cx} {σ : St} {F H : Hp} {e a b : Expr} {es : List Expr} {d d1 d2 : PyData} {ds : List PyData} {v : V} {i j : Int} {pos p : Pos} {x : Str}
theorem DE.mono {F' H' : Hp} (g : Gr F H F' H') (h : DE X e σ F H d) : DE X e σ F' H' d := fun F1 H1 g1 => h F1 H1 (g.trans g1)
theorem DT.mono {F' H' : Hp} {c : Bool} (g : Gr F H F' H') (h : DT X e σ F H c) : DT X e σ F' H' c := fun F1 H1 g1 => h F1 H1 (g.trans g1)
theorem VE.mono {F' H' : Hp} (g : Gr F H F' H') (h : VE X e σ F H v) : VE X e σ F' H' v := fun F1 H1 g1 => h F1 H1 (g.trans g1)
theorem DE.go (h : DE X e σ F H d) (s : Same F H) {Q : VK} (q : ∀ v F2 H2, Gr F H F2 H2 → Da F2 d v → Q v H2) : WE X e σ H Q := h F H (.refl s) Q q
theorem VE.go (h : VE X e σ F H v) (s : Same F H) {Q : VK} (q : ∀ F2 H2, Gr F H F2 H2 → Q v H2) : WE X e σ H Q := h F H (.refl s) Q q
theorem DT.go {c : Bool} (h : DT X e σ F H c) (s : Same F H) {Q : Bool → Hp → Prop} (q : ∀ F2 H2, Gr F H F2 H2 → Q c H2) : WT X e σ H Q := h F H (.refl s) Q q
theorem de_of (h : VE X e σ F H v) (hd : Da F d v) : DE X e σ F H d := fun F1 H1 g Q q => h F1 H1 g Q fun F2 H2 g2 => q v F2 H2 g2 (g2.da (g.da hd))
/-- by a rule of the layer that leaves the heap -/
theorem ve_of {t : TE} (h : PE X e t) (q : ∀ F1 H1, Gr F H F1 H1 → ∀ Q : VK, Q v H1 → t σ H1 Q) : VE X e σ F H v := fun F1 H1 g Q k => we_of h (q F1 H1 g Q (k F1 H1 (.refl g.fh)))
/-- names and constants -/
theorem ve_v (k : Nat) {w : V} (h : σ[k]? = some (some w) := by rfl) (hN : X.N[k]? = some x := by rfl) (hv : Vis X.env.scope x := by first | exact Or.inl rfl | exact Or.inr (Or.inl rfl) | exact Or.inr (Or.inr rfl)) (hd : (x == ("__debug__" : Str)) = false := by decide)
    (hcd : (x == ("__classdict__" : Str)) = false := by decide) : VE X (.Name x pos) σ F H w := ve_of (pe_var hN hv hd hcd) fun F1 H1 _ Q q => ⟨w, h, q⟩
theorem de_v (k : Nat) {w : V} (hw : Da F d w) (h : σ[k]? = some (some w) := by rfl) (hN : X.N[k]? = some x := by rfl) (hv : Vis X.env.scope x := by first | exact Or.inl rfl | exact Or.inr (Or.inl rfl) | exact Or.inr (Or.inr rfl)) (hd : (x == ("__debug__" : Str)) = false := by decide)
    (hcd : (x == ("__classdict__" : Str)) = false := by decide) : DE X (.Name x pos) σ F H d := de_of (ve_v k h hN hv hd hcd) hw
theorem de_int {k : Nat} : DE X (.Constant (.int i) k pos) σ F H (.int i) := de_of (v := .int i) (ve_of pe_int fun _ _ _ _ q => q) rfl
theorem de_bool {k : Nat} {c : Bool} : DE X (.Constant (.bool c) k pos) σ F H (.bool c) := de_of (v := .bl c) (ve_of pe_bl fun _ _ _ _ q => q) rfl
end
end Kr
/-! layer Kr2 -/
namespace Kr
open PySem L2
section
variable {X : Cx} {σ : St} {F H : Hp} {e a b c : Expr} {es : List Expr} {d d1 d2 : PyData} {ds ds' : List PyData} {v : V} {i j k : Int} {pos p : Pos} {x y : Str} {bb cc : Bool}
structure Pl (X : Cx) (e : Expr) (es : List Expr) (pos : Pos) : Prop where
  he : starEach (e :: es) X.env = (false, eval e X.env) :: starEach es X.env
  hpl : (backTo pos (starEach es X.env)).any (·.1) = false
structure Nm (x : Str) : Prop where
  hn : x ≠ "__name__"
  hdb : (x == ("__debug__" : Str)) = false
/-! ### numbers -/
/-- a comparison, as a value or as a test -/
def DC (X : Cx) (op : CmpOp) (a b : Expr) (σ : St) (F H : Hp) (bb : Bool) : Prop := behindInMarks op b = false ∧ ∃ r, OpR X (compareOp op) r ∧ ∀ F1 H1, Gr F H F1 H1 → ∀ Q : VK, (∀ F2 H2, Gr F1 H1 F2 H2 → Q (.bl bb) H2) → tOp r (WE X a) (WE X b) σ H1 Q
theorem de_c {op : CmpOp} (h : DC X op a b σ F H bb) : DE X (.Compare a [op] [b] pos) σ F H (.bool bb) := by
  obtain ⟨hm, r, ho, h⟩ := h
  exact fun F1 H1 g Q q => we_of (pe_cmpR ho pe_we pe_we hm) (h F1 H1 g Q fun F2 H2 g2 => q _ F2 H2 g2 rfl)
theorem dt_c {op : CmpOp} (h : DC X op a b σ F H bb) : DT X (.Compare a [op] [b] pos) σ F H bb := by
  obtain ⟨hm, r, ho, h⟩ := h
  exact fun F1 H1 g Q q => wt_of (pt_cmpR ho pe_we pe_we hm) (h F1 H1 g _ fun F2 H2 g2 => ⟨bb, rfl, q F2 H2 g2⟩)
theorem c_is {op : CmpOp} (h : DC X op a b σ F H bb) (q : bb = cc) : DC X op a b σ F H cc := q ▸ h
theorem c_cmp {op : CmpOp} {r : R2} (ho : OpR X (compareOp op) r) (hm : behindInMarks op b = false) (ha : DE X a σ F H d1) (hb : DE X b σ F H d2) (hr : ∀ x y F1 H1, Gr F H F1 H1 → Da F1 d1 x → Da F1 d2 y → ∀ Q : VK, (∀ v F2 H2, Gr F1 H1 F2 H2 → Da F2 (.bool bb) v → Q v H2) → r x y H1 Q) :
    DC X op a b σ F H bb := ⟨hm, r, ho, fun F1 H1 g Q q => ha F1 H1 g _ fun x F2 H2 g2 hx => hb F2 H2 (g.trans g2) _ fun y F3 H3 g3 hy =>
      hr x y F3 H3 ((g.trans g2).trans g3) (g3.da hx) hy Q fun v F4 H4 g4 hv => by obtain rfl : v = .bl bb := hv; exact q F4 H4 ((g2.trans g3).trans g4)⟩
/-- i <= j <= k -/
theorem de_lele (ha : DE X a σ F H (.int i)) (hb : DE X b σ F H (.int j)) (hc : DE X c σ F H (.int k)) (hm : lastMarks [.LtE, .LtE] [b, c] = false := by with_unfolding_all rfl) : DE X (.Compare a [.LtE, .LtE] [b, c] pos) σ F H (.bool (decide (i ≤ j) && decide (j ≤ k))) := fun F1 H1 g Q q =>
  we_of (pe_chain op_le op_le pe_we pe_we pe_we hm) (ha F1 H1 g _ fun x F2 H2 g2 hx => hb F2 H2 (g.trans g2) _ fun y F3 H3 g3 hy => by
    refine ⟨i, j, hx, hy, _, rfl, ?_⟩
    by_cases hij : i ≤ j
    · rw [decide_eq_true hij]
      refine iteT (hc F3 H3 ((g.trans g2).trans g3) _ fun z F4 H4 g4 hz => ⟨j, k, hy, hz, ?_⟩)
      exact q _ F4 H4 ((g2.trans g3).trans g4) (by show V.bl _ = V.bl _; simp [hij])
    · rw [decide_eq_false hij]
      exact iteF (q _ F3 H3 (g2.trans g3) (by show V.bl _ = V.bl _; simp [hij])))
/-- i <= j <= k -/
theorem dt_lele (ha : DE X a σ F H (.int i)) (hb : DE X b σ F H (.int j)) (hc : DE X c σ F H (.int k)) (hm : lastMarks [.LtE, .LtE] [b, c] = false := by with_unfolding_all rfl) : DT X (.Compare a [.LtE, .LtE] [b, c] pos) σ F H (decide (i ≤ j) && decide (j ≤ k)) := fun F1 H1 g Q q =>
  wt_of (pt_chain op_le op_le pe_we pe_we pe_we hm) (ha F1 H1 g _ fun x F2 H2 g2 hx => hb F2 H2 (g.trans g2) _ fun y F3 H3 g3 hy => by
    refine ⟨i, j, hx, hy, _, rfl, ?_⟩
    by_cases hij : i ≤ j
    · rw [decide_eq_true hij]
      refine iteT (hc F3 H3 ((g.trans g2).trans g3) _ fun z F4 H4 g4 hz => ⟨j, k, hy, hz, _, rfl, ?_⟩)
      have := q F4 H4 ((g2.trans g3).trans g4)
      simpa [hij] using this
    · rw [decide_eq_false hij]
      have := q F3 H3 (g2.trans g3)
      exact iteF ⟨_, rfl, by simpa [hij] using this⟩)
/-! ### equality -/
theorem c_eq (hu : X.A.units + 64 < cLine) (ha : DE X a σ F H d1) (hb : DE X b σ F H d2) (h1 : SeqAt.shaped d1 = true) (h2 : SeqAt.shaped d2 = true) : DC X .Eq a b σ F H (PyData.eqv d1 d2) :=
  c_cmp (op_eqD hu) (nomark _) ha hb fun x y F1 H1 g1 hx hy Q q => ⟨d1, d2, (hx.mono g1.fh).dp (SeqAt.canLay_of_shaped h1), (hy.mono g1.fh).dp (SeqAt.canLay_of_shaped h2), h1, h2, q (.bl _) F1 H1 (.refl g1.fh) rfl⟩
theorem c_neI (ha : DE X a σ F H (.int i)) (hb : DE X b σ F H (.int j)) : DC X .NotEq a b σ F H (!decide (i = j)) :=
  c_cmp op_ne (nomark _) ha hb fun x y F1 H1 g1 hx hy Q q => by
    obtain rfl : x = .int i := hx
    obtain rfl : y = .int j := hy
    exact ⟨rfl, q _ F1 H1 (.refl g1.fh) (by show V.bl _ = V.bl _; simp)⟩
/-! ### truth -/
theorem dt_val (h : DE X e σ F H (.bool bb)) (he : ∀ whole, isTrue e X.env whole = (do let v ← whole; standAt e.pos; holding [v] (truthy v)) := by intro _; rfl) : DT X e σ F H bb := fun F1 H1 g Q q =>
  wt_of (pt_val pe_we he) (h F1 H1 g _ fun v F2 H2 g2 hv => ⟨bb, hv, q F2 H2 g2⟩)
theorem DT.of_w (h : DW X e σ F H bb) : DT X e σ F H bb := fun F1 H1 g Q q => wt_of (PW.pt pw_ww) (h F1 H1 g Q q)
theorem dt_not (h : DT X a σ F H bb) : DT X (.UnaryOp .Not a pos) σ F H (!bb) := fun F1 H1 g Q q => wt_of (pt_not pt_wt) (h F1 H1 g _ fun F2 H2 g2 => q F2 H2 g2)
theorem dt_is_w (h : DW X e σ F H bb) (q : bb = cc) : DW X e σ F H cc := q ▸ h
theorem dw_or1 (h : DT X a σ F H bb) : DW X (.BoolOp .Or [a] pos) σ F H bb := fun F1 H1 g Q q => ww_of (pw_or1 pt_wt) (h F1 H1 g Q q)
theorem dw_or (h : DT X a σ F H bb) (h2 : bb = false → DW X (.BoolOp .Or (b :: es) pos) σ F H cc) : DW X (.BoolOp .Or (a :: b :: es) pos) σ F H (bb || cc) := fun F1 H1 g Q q =>
  ww_of (pw_or pt_wt pw_ww) (h F1 H1 g _ fun F2 H2 g2 => by
    cases bb with
    | true => exact iteT (q F2 H2 g2)
    | false => exact iteF (h2 rfl F2 H2 (g.trans g2) _ fun F3 H3 g3 => q F3 H3 (g2.trans g3)))
theorem de_one {op} (h : DE X a σ F H d) : DE X (.BoolOp op [a] pos) σ F H d := fun F1 H1 g Q q => we_of (pe_one pe_we) (h F1 H1 g Q q)
theorem de_and (h : DE X a σ F H (.bool bb)) (h2 : bb = true → DE X (.BoolOp .And (b :: es) pos) σ F H (.bool cc)) : DE X (.BoolOp .And (a :: b :: es) pos) σ F H (.bool (bb && cc)) := fun F1 H1 g Q q =>
  we_of (pe_and pe_we pe_we) (h F1 H1 g _ fun v F2 H2 g2 hv => ⟨bb, hv, by
    cases bb with
    | true => exact iteT (h2 rfl F2 H2 (g.trans g2) _ fun w F3 H3 g3 hw => q w F3 H3 (g2.trans g3) hw)
    | false => exact iteF (q _ F2 H2 g2 rfl)⟩)
/-! ### argument lists, displays -/
theorem dl_nil : DL X [] σ F H [] := fun F1 H1 g Q q => wa_of pa_nil (q [] F1 H1 (.refl g.fh) daAll_nil)
theorem dl_cons (h : DE X e σ F H d) (t : DL X es σ F H ds) (hs : starEach (e :: es) X.env = (false, eval e X.env) :: starEach es X.env := by rfl) : DL X (e :: es) σ F H (d :: ds) := fun F1 H1 g Q q =>
  wa_of (pa_cons pe_we pa_wa hs) (h F1 H1 g _ fun v F2 H2 g2 hv => t F2 H2 (g.trans g2) _ fun vs F3 H3 g3 hvs => q (v :: vs) F3 H3 (g2.trans g3) (daAll_cons (g3.da hv) hvs))
theorem de_lst (h : DL X es σ F H ds) (hz : ds.length ≤ sizeLine := by decide) : DE X (.List es pos) σ F H (.list ds) := fun F1 H1 g Q q =>
  we_of (pe_lst pa_wa) (h F1 H1 g _ fun vs F2 H2 g2 hvs => ⟨by rw [hvs.length]; exact hz, fun p hp => q (.ref p) (upd F2 p (.lst vs)) _ (g2.shut hp) ⟨p, vs, rfl, upd_same, hvs.mono (same_upd (g2.fh.free hp))⟩⟩)
/-! ### items -/
theorem DaAll.atI {H : Hp} {ds : List PyData} {vs : List V} {i : Int} {d : PyData} (h : DaAll H ds vs) (e : L2.atI ds i = some d) : ∃ v, L2.atI vs i = some v ∧ Da H d v := by
  unfold L2.atI at e ⊢
  rw [h.length]
  cases hj : ixN ds.length i with
  | none => rw [hj] at e; simp at e
  | some j =>
    rw [hj] at e
    exact h.get (by simpa using e)
theorem de_ixT (ha : DE X a σ F H (.tuple ds)) (hb : DE X b σ F H (.int i)) (h : L2.atI ds i = some d) (hs : PlainIx b := by exact fun _ _ => rfl) : DE X (.Subscript a b pos) σ F H d := fun F1 H1 g Q q =>
  we_of (pe_ix ix_tup pe_we pe_we hs) (ha F1 H1 g _ fun x F2 H2 g2 hx => hb F2 H2 (g.trans g2) _ fun y F3 H3 g3 hy => by
    obtain ⟨p, vs, rfl, h1, h2⟩ := hx
    obtain ⟨v, hv, hd⟩ := h2.atI h
    exact ⟨p, vs, i, v, rfl, hy, SqT.of (g3.same _ _ h1), hv, q v F3 H3 (g2.trans g3) (g3.da hd)⟩)
/-! ### calls of what is built in -/
theorem de_callB {id : String} {r : List V → Hp → VK → Prop} (hc : CallR X (.builtin id) r) (hg : Gl X x) (hm : X.mg x = none) (hv : bootBuiltins x = some (.builtin id)) (ha : DL X (e :: es) σ F H ds)
    (hr : ∀ vs F1 H1, Gr F H F1 H1 → DaAll F1 ds vs → ∀ Q : VK, (∀ v F2 H2, Gr F1 H1 F2 H2 → Da F2 d v → Q v H2) → r vs H1 Q)
    (n : Nm x) (l : Pl X e es pos) : DE X (.Call (.Name x p) (e :: es) [] pos) σ F H d := fun F1 H1 g Q q =>
  we_of (pe_callB hc hg hm hv pa_wa n.hn n.hdb l.he l.hpl) (ha F1 H1 g _ fun vs F2 H2 g2 hvs => hr vs F2 H2 (g.trans g2) hvs Q fun v F3 H3 g3 hv => q v F3 H3 (g2.trans g3) hv)
theorem daAll1 {H : Hp} {vs : List V} (h : DaAll H [d] vs) : ∃ v, vs = [v] ∧ Da H d v := by
  obtain ⟨v, r, rfl, h1, h2⟩ := h
  obtain rfl : r = [] := h2
  exact ⟨v, rfl, h1⟩
theorem de_lenL (hm : X.mg "len" = none) (ha : DE X e σ F H (.list ds)) (hg : Gl X "len" := by rfl) (l : Pl X e [] pos := by exact ⟨rfl, rfl⟩) : DE X (.Call (.Name "len" p) [e] [] pos) σ F H (.int ds.length) :=
  de_callB call_len hg hm PySem.boot_len (dl_cons ha dl_nil l.he) (fun vs F1 H1 g1 hv Q q => by
    obtain ⟨v, rfl, a, xs, rfl, h1, h2⟩ := daAll1 hv
    exact ⟨_, xs.length, rfl, .inl ⟨xs, SqL.of (g1.fh _ _ h1), rfl⟩, q _ F1 H1 (.refl g1.fh) (by rw [h2.length]; rfl)⟩) ⟨by decide, by decide⟩ l
theorem de_lenT (hm : X.mg "len" = none) (ha : DE X e σ F H (.tuple ds)) (hg : Gl X "len" := by rfl) (l : Pl X e [] pos := by exact ⟨rfl, rfl⟩) : DE X (.Call (.Name "len" p) [e] [] pos) σ F H (.int ds.length) :=
  de_callB call_len hg hm PySem.boot_len (dl_cons ha dl_nil l.he) (fun vs F1 H1 g1 hv Q q => by
    obtain ⟨v, rfl, a, xs, rfl, h1, h2⟩ := daAll1 hv
    exact ⟨_, xs.length, rfl, .inr ⟨xs, SqT.of (g1.fh _ _ h1), rfl⟩, q _ F1 H1 (.refl g1.fh) (by rw [h2.length]; rfl)⟩) ⟨by decide, by decide⟩ l
theorem de_lenS {z : Str} (hm : X.mg "len" = none) (ha : DE X e σ F H (.str z)) (hz : z.length ≤ sizeLine) (hg : Gl X "len" := by rfl) (l : Pl X e [] pos := by exact ⟨rfl, rfl⟩) : DE X (.Call (.Name "len" p) [e] [] pos) σ F H (.int z.length) :=
  de_callB call_len hg hm PySem.boot_len (dl_cons ha dl_nil l.he) (fun vs F1 H1 g1 hv Q q => by
    obtain ⟨v, rfl, h1⟩ := daAll1 hv
    obtain rfl : v = .str z := h1
    exact ⟨_, z.length, rfl, ⟨hz, rfl⟩, q _ F1 H1 (.refl g1.fh) rfl⟩) ⟨by decide, by decide⟩ l
theorem daAll_rep {H : Hp} {vs : List V} (h : DaAll H ds vs) : ∀ n : Nat, DaAll H (List.replicate n ds).flatten (List.replicate n vs).flatten
  | 0 => daAll_nil
  | n + 1 => by
    rw [List.replicate_succ, List.replicate_succ, List.flatten_cons, List.flatten_cons]
    exact h.append (daAll_rep h n)
/-! ### isinstance -/
def tyName : PyData → String
  | .none => "NoneType"
  | .bool _ => "bool"
  | .int _ => "int"
  | .str _ => "str"
  | .list _ => "list"
  | .tuple _ => "tuple"
  | .dict _ => "dict"
theorem da_ty {K : PySem.W.Frag} {H : Hp} {d : PyData} {v : V} (h : Da H d v) (nx : noEx d = true) : TyX K H v (.type (tyName d)) := by
  cases d with
  | none => obtain rfl : v = .non := h; exact .base .non
  | bool c => obtain rfl : v = .bl c := h; exact .base (.bl c)
  | int c => obtain rfl : v = .int c := h; exact .base (.int c)
  | str c => obtain rfl : v = .str c := h; exact .base (.str c)
  | list ds => obtain ⟨p, vs, rfl, h1, h2⟩ := h; exact .base (.lst h1)
  | tuple ds => obtain ⟨p, vs, rfl, h1, h2⟩ := h; exact .base (.tup h1)
  | dict _ => obtain ⟨p, es, rfl, h1, h2⟩ := Da.dict h nx; exact h1.elim (fun z => .base (.dK z)) fun ⟨_, z⟩ => .fDict z
theorem de_isi {T : Str} {tn : String} {q1 q2 : Pos} (hm : X.mg "isinstance" = none) (hmT : X.mg T = none) (ha : DE X e σ F H d) (hb : kitB (tyName d) tn = some bb) (hv : bootBuiltins T = some (.type tn) := by decide +kernel) (hg : Gl X "isinstance" := by rfl) (hgT : Gl X T := by rfl) (n : Nm T := by exact ⟨by decide, by decide⟩)
    (l : Pl X e [.Name T pos] q2 := by exact ⟨rfl, rfl⟩) (l2 : starEach [.Name T pos] X.env = [(false, eval (.Name T pos) X.env)] := by rfl) (nx : noEx d = true := by first | rfl | assumption) : DE X (.Call (.Name "isinstance" q1) [e, .Name T pos] [] q2) σ F H (.bool bb) := fun F1 H1 g Q q =>
  we_of (pe_callB call_isi hg hm (by decide +kernel) (pa_cons pe_we (pa_cons (pe_bltn (v := .ty tn) hgT hmT hv rfl n.hn n.hdb) pa_nil l2) l.he) (by decide) (by decide) l.he l.hpl) (ha F1 H1 g _ fun v F2 H2 g2 hv2 =>
    ⟨v, .ty tn, .type (tyName d), .type tn, bb, rfl, .ty tn, da_ty (hv2.mono g2.fh) nx, kit_ty hb, q _ F2 H2 g2 rfl⟩)
end
end Kr
/-! layer Kr3 -/
namespace Kr
open PySem L2
/-! ## targets -/
def WG (X : Cx) (tg : Expr) : TG := fun v σ H Q => ∀ (pins : List (Addr × Obj)) (s : Shared) (u : Value), Inv X pins σ H s → RelV v u →
  wpAny (model X.prog X.w) X.A (assign tg X.env u) (fun _ s' => ∃ σ' H', Inv X pins σ' H' s' ∧ Q σ' H') X.xe s
theorem pg_wg {X : Cx} {tg : Expr} : PG X tg (WG X tg) := ⟨fun pins s σ H v u Q I r h => h pins s u I r⟩
theorem wg_of {X : Cx} {tg : Expr} {t : TG} {v : V} {σ : St} {H : Hp} {Q : St → Hp → Prop} (h : PG X tg t) (q : t v σ H Q) : WG X tg v σ H Q := fun pins s u I r => h.run pins s σ H v u Q I r q
section
variable {X : Cx} {σ : St} {F H : Hp} {v : V} {Q : St → Hp → Prop} {x : Str} {pos : Pos} {t1 t2 t3 : Expr} {d1 d2 d3 : PyData}
theorem wg_name (i : Nat) (hN : X.N.Nodup) (q : Q (σ.set i (some v)) H) (hi : X.N[i]? = some x := by rfl) (hx : Loc X.env.scope x := by first | exact .inl rfl | exact .inr rfl) (hf : X.fn x = true ∨ X.env.scope.names.lookup x = some .local := by first | exact .inl rfl | exact .inr rfl) : WG X (.Name x pos) v σ H Q := wg_of (pg_name hN hi hx hf) q
end
/-! ## what is walked -/
def Walks (J : It) (F2 : Hp) (ds : List PyData) : Prop := ∀ F3 H3, Same F2 F3 → Same F3 H3 →
  (∀ (i : Nat) d, ds[i]? = some d → J.go i H3 ∧ ∀ x H4, J.yld i H3 x H4 → ∃ F4, Gr F3 H3 F4 H4 ∧ Da F4 d x) ∧ J.stop ds.length H3
/-- .. leaving the heap at each turn -/
def Walks0 (J : It) (F2 : Hp) (ds : List PyData) : Prop := ∀ F3 H3, Same F2 F3 → Same F3 H3 →
  (∀ (i : Nat) d, ds[i]? = some d → J.go i H3 ∧ ∀ x H4, J.yld i H3 x H4 → H4 = H3 ∧ Da F3 d x) ∧ J.stop ds.length H3
theorem Walks0.w {J : It} {F2 : Hp} {ds : List PyData} (h : Walks0 J F2 ds) : Walks J F2 ds := fun F3 H3 s1 s2 => ⟨fun i d e => ⟨((h F3 H3 s1 s2).1 i d e).1, fun x H4 y => by
  obtain ⟨rfl, hd⟩ := ((h F3 H3 s1 s2).1 i d e).2 x H4 y
  exact ⟨F3, .refl s2, hd⟩⟩, (h F3 H3 s1 s2).2⟩
def DI (X : Cx) (tg iter : Expr) (σ : St) (F H : Hp) (ds : List PyData) : Prop := ∀ F1 H1, Gr F H F1 H1 → ∀ R : It → Hp → Prop, (∀ J F2 H2, Gr F1 H1 F2 H2 → Walks J F2 ds → R J H2) → WI X tg iter σ H1 R
def DI0 (X : Cx) (tg iter : Expr) (σ : St) (F H : Hp) (ds : List PyData) : Prop := ∀ F1 H1, Gr F H F1 H1 → ∀ R : It → Hp → Prop, (∀ J F2 H2, Gr F1 H1 F2 H2 → Walks0 J F2 ds → R J H2) → WI X tg iter σ H1 R
theorem DI0.i {X : Cx} {tg iter : Expr} {σ : St} {F H : Hp} {ds : List PyData} (h : DI0 X tg iter σ F H ds) : DI X tg iter σ F H ds := fun F1 H1 g R q => h F1 H1 g R fun J F2 H2 g2 w => q J F2 H2 g2 w.w
theorem getV {H : Hp} {ds : List PyData} {xs : List V} {i : Nat} {d : PyData} {x : V} (h : DaAll H ds xs) (e : ds[i]? = some d) (ex : xs[i]? = some x) : Da H d x := by
  obtain ⟨v, hv, hd⟩ := h.get e
  rw [ex] at hv; cases hv; exact hd
section
variable {X : Cx} {tg e e2 : Expr} {σ : St} {F H : Hp} {ds es : List PyData} {i j : Int} {pos p : Pos} {x : Str}
theorem di_list (h : DE X e σ F H (.list ds)) : DI0 X tg e σ F H ds := fun F1 H1 g R q => wi_of (pi_list pe_we) (h F1 H1 g _ fun v F2 H2 g2 hv => by
  obtain ⟨a, xs, rfl, h1, h2⟩ := hv
  refine ⟨a, rfl, ⟨xs, SqL.of (g2.fh _ _ h1)⟩, q _ F2 H2 g2 fun F3 H3 s1 s2 => ⟨fun i d e => ?_, xs, SqL.of (s2 _ _ (s1 _ _ h1)), by rw [h2.length]; exact Nat.le_refl _⟩⟩
  obtain ⟨v, hv, hd⟩ := h2.get e
  exact ⟨⟨xs, v, SqL.of (s2 _ _ (s1 _ _ h1)), hv⟩, fun x H4 y => ⟨y.1, (getV h2 e (y.2 xs (SqL.of (s2 _ _ (s1 _ _ h1))))).mono s1⟩⟩)
def signsD (z : Str) : List PyData := z.cps.toList.map fun c => .str ⟨#[c]⟩
theorem di_str {z : Str} (h : DE X e σ F H (.str z)) : DI0 X tg e σ F H (signsD z) := fun F1 H1 g R q => wi_of (pi_str pe_we) (h F1 H1 g _ fun v F2 H2 g2 hv => by
  refine ⟨z, hv, q _ F2 H2 g2 fun F3 H3 s1 s2 => ⟨fun i d e => ?_, by show z.cps.size ≤ _; simp [signsD]⟩⟩
  unfold signsD at e
  rw [List.getElem?_map] at e
  cases hc : z.cps.toList[i]? with
  | none => rw [hc] at e; simp at e
  | some c =>
    rw [hc] at e
    have e' : PyData.str ⟨#[c]⟩ = d := by simpa using e
    subst e'
    have hlt : i < z.cps.size := by
      have := (List.getElem?_eq_some_iff.mp hc).1
      simpa using this
    refine ⟨hlt, fun x H4 y => ⟨y.1, ?_⟩⟩
    obtain ⟨c', hc', rfl⟩ := y.2
    have : some c' = some c := by rw [← hc', ← hc]; simp
    cases this
    rfl)
/-- the intsD from i on, below j -/
def intsD (i j : Int) : List PyData := (List.range (j - i).toNat).map fun k => .int (i + (k : Nat))
theorem intsD_length {i j : Int} : (intsD i j).length = (j - i).toNat := by simp [intsD]
theorem intsD_get {i j : Int} {k : Nat} {d : PyData} (h : (intsD i j)[k]? = some d) : d = .int (i + k) ∧ k < (j - i).toNat := by
  unfold intsD at h
  rw [List.getElem?_map] at h
  cases hc : (List.range (j - i).toNat)[k]? with
  | none => rw [hc] at h; simp at h
  | some c =>
    rw [hc] at h
    obtain ⟨hl, e⟩ := List.getElem?_eq_some_iff.mp hc
    simp at e hl
    subst e
    simp at h
    exact ⟨h.symm, by omega⟩
theorem walks_rng (i : Int) (n : Nat) {F2 : Hp} {j : Int} (hn : n = (j - i).toNat) : Walks0 (Itr i n) F2 (intsD i j) := fun F3 H3 s1 s2 => ⟨fun k d e => by
  obtain ⟨rfl, hk⟩ := intsD_get e
  exact ⟨by show k < n; omega, fun x H4 y => ⟨y.1, y.2⟩⟩, by show n ≤ _; rw [intsD_length]; omega⟩
def enumsD (ds : List PyData) : List PyData := ds.mapIdx fun k d => .tuple [.int (k : Nat), d]
end
/-! ## statements -/
section
variable {X : Cx} {σ : St} {F H : Hp} {e c : Expr} {d : PyData} {v : V} {D : Ends} {st : Stmt} {rest body orelse : List Stmt} {x : Str} {pos p : Pos} {b : Bool}
theorem ss_nil (q : D.nx σ H) : WSs X [] D σ H := wss_of pss_nil q
theorem ss_cons (h : WS X st { D with nx := WSs X rest D } σ H) : WSs X (st :: rest) D σ H := wss_of (pss_cons ps_ws pss_wss) h
theorem WS.nx {M N : St → Hp → Prop} (h : WS X st { D with nx := M } σ H) (k : ∀ σ' H', M σ' H' → N σ' H') : WS X st { D with nx := N } σ H := fun pins s I => thn (h pins s I) fun f s' q => by
  cases f with
  | next => obtain ⟨σ', H', I', q⟩ := q; exact ⟨σ', H', I', k σ' H' q⟩
  | brk => exact q
  | cont => exact q
  | ret u => exact q
theorem ss_one (h : WS X st D σ H) : WSs X [st] D σ H := wss_of (pss_one ps_ws) h
theorem ws_set (i : Nat) (hN : X.N.Nodup) (h : WE X e σ H fun v H1 => D.nx (σ.set i (some v)) H1) (hs : swapsWith e (some (.Name x p)) pos.line X.env = pure false := by rfl) (hi : X.N[i]? = some x := by rfl) (hx : Loc X.env.scope x := by first | exact .inl rfl | exact .inr rfl)
    (hf : X.fn x = true ∨ X.env.scope.names.lookup x = some .local := by first | exact .inl rfl | exact .inr rfl) : WS X (.Assign [.Name x p] e pos) D σ H := ws_of (ps_set hN hi hx pe_we hs hf) h
theorem ws_ret (h : WE X e σ H D.rt) : WS X (.Return (some e) pos) D σ H := ws_of (ps_ret pe_we) h
theorem ws_expr (h : WE X e σ H fun _ H1 => D.nx σ H1) (hs : swapsWith e none pos.line X.env = pure false := by rfl) : WS X (.Expr e pos) D σ H := ws_of (ps_expr pe_we hs) h
theorem ws_if (h : WT X c σ H fun b H1 => if b = true then WSs X body D σ H1 else WSs X orelse D σ H1) : WS X (.If c body orelse pos) D σ H := ws_of (ps_if pt_wt pss_wss pss_wss) h
theorem ws_ifD (h : DT X c σ F H b) (s : Same F H) (h1 : b = true → ∀ F2 H2, Gr F H F2 H2 → WSs X body D σ H2) (h2 : b = false → ∀ F2 H2, Gr F H F2 H2 → WSs X orelse D σ H2) : WS X (.If c body orelse pos) D σ H :=
  ws_if (h.go s fun F2 H2 g => by
    cases b with
    | true => exact iteT (h1 rfl F2 H2 g)
    | false => exact iteF (h2 rfl F2 H2 g))
theorem ws_retD (h : DE X e σ F H d) (s : Same F H) (q : ∀ v F2 H2, Gr F H F2 H2 → Da F2 d v → D.rt v H2) : WS X (.Return (some e) pos) D σ H := ws_ret (h.go s q)
theorem ws_asg {tg : Expr} (h : WE X e σ H fun v H1 => WG X tg v σ H1 D.nx) (hs : swapsWithSole [tg] e pos.line X.env = pure false := by rfl) (hw : swappedStores [tg] e X.env = pure none := by rfl)
    (h1 : (assignEach [tg] X.env).map (·.2) = [assign tg X.env] := by rfl) : WS X (.Assign [tg] e pos) D σ H := ws_of (ps_asg pe_we pg_wg hs hw h1) h
end
end Kr
/-! layer Kr4 -/
namespace Kr
open PySem L2
/-! ## comprehensions -/
def DEt (t : TE) (σ : St) (F H : Hp) (d : PyData) : Prop := ∀ F1 H1, Gr F H F1 H1 → ∀ Q : VK, (∀ v F2 H2, Gr F1 H1 F2 H2 → Da F2 d v → Q v H2) → t σ H1 Q
def DTt (t : TT) (σ : St) (F H : Hp) (b : Bool) : Prop := ∀ F1 H1, Gr F H F1 H1 → ∀ Q : Bool → Hp → Prop, (∀ F2 H2, Gr F1 H1 F2 H2 → Q b H2) → t σ H1 Q
def TG.Mono (g : TG) : Prop := ∀ v σ H (Q Q' : St → Hp → Prop), (∀ σ' H', Q σ' H' → Q' σ' H') → g v σ H Q → g v σ H Q'
theorem WG.mono {X : Cx} {tg : Expr} {v : V} {σ : St} {H : Hp} {Q Q' : St → Hp → Prop} (k : ∀ σ' H', Q σ' H' → Q' σ' H') (h : WG X tg v σ H Q) : WG X tg v σ H Q' := fun pins s u I r =>
  thn (h pins s u I r) fun _ s' ⟨σ', H', I', q⟩ => ⟨σ', H', I', k σ' H' q⟩
theorem det_lc {α : Type} {X : Cx} {tg iter : Expr} {g : TG} {tt : TT} {te : TE} {vs : List Nat} {σ : St} {F H : Hp} {D : α → PyData} {xs : List α} (f : α → Bool) (h : α → PyData) (hz : xs.length ≤ sizeLine) (hg : TG.Mono g) (hi : DI X tg iter σ F H (xs.map D))
    (hs : ∀ x ∈ xs, ∀ v F' H', Gr F H F' H' → Da F' (D x) v → g v (wipe σ vs) H' fun σ2 H2 => H2 = H' ∧ wipe σ2 vs = wipe σ vs ∧ DTt tt σ2 F' H' (f x) ∧ (f x = true → DEt te σ2 F' H' (h x))) :
    DEt (tLc (WI X tg iter) g tt te vs) σ F H (.list ((xs.filter f).map h)) := fun F1 H1 g1 Q q => hi F1 H1 g1 _ fun J F2 H2 g2 w Dl hDl => by
  refine ⟨fun i m H' => m = xs.length - i ∧ i ≤ xs.length ∧ ∃ F' ys, Gr F2 H2 F' H' ∧ F' Dl = none ∧ H' Dl = some (.lst ys) ∧ DaAll F' (((xs.take i).filter f).map h) ys,
    ⟨xs.length, by simp, Nat.zero_le _, F2, [], (Gr.refl g2.fh).open' hDl, g2.fh.free hDl, upd_same, daAll_nil⟩, ?_⟩
  rintro i m H' ⟨rfl, hi', F', ys, g', n', e', a'⟩
  obtain ⟨w1, w2⟩ := w F' H' g'.ff g'.fh
  rw [List.length_map] at w2
  by_cases hlt : i < xs.length
  · have e0 : xs[i]? = some xs[i] := List.getElem?_eq_getElem hlt
    have e : (xs.map D)[i]? = some (D xs[i]) := by rw [List.getElem?_map, e0]; rfl
    obtain ⟨go, yl⟩ := w1 i _ e
    have htk : xs.take (i + 1) = xs.take i ++ [xs[i]] := by rw [List.take_add_one, e0]; rfl
    have hly : ys.length < sizeLine := by
      have h1 := a'.length
      have h2 : (((xs.take i).filter f).map h).length ≤ i := by
        rw [List.length_map]
        exact Nat.le_trans (List.length_filter_le _ _) (by rw [List.length_take]; omega)
      omega
    refine .inr ⟨go, fun H3 => i + 1 ≤ xs.length ∧ ∃ F' ys, Gr F2 H2 F' H3 ∧ F' Dl = none ∧ H3 Dl = some (.lst ys) ∧ DaAll F' (((xs.take (i + 1)).filter f).map h) ys, fun H3 p' => ⟨xs.length - (i + 1), by omega, rfl, p'⟩, fun x H4 y => ?_⟩
    obtain ⟨F4, g4, hd⟩ := yl x H4 y
    have gg := (g1.trans g2).trans (g'.trans g4)
    refine hg _ _ _ _ _ ?_ (hs xs[i] (List.getElem_mem hlt) x F4 H4 gg hd)
    rintro σ2 H5 ⟨rfl, hw, ht, he⟩
    refine ⟨hw, ht F4 H5 (.refl g4.fh) _ fun F6 H6 g6 => ?_⟩
    have n6 : F6 Dl = none := (g4.trans g6).f0 n' e'
    have e6 : H6 Dl = some (.lst ys) := (g4.trans g6).hh _ _ e'
    cases hf : f xs[i] with
    | true =>
      refine iteT (he hf F6 H6 g6 _ fun v F7 H7 g7 hv => ⟨ys, g7.hh _ _ e6, hly, hlt, F7, ys ++ [v], ?_, g7.f0 n6 e6, upd_same, ?_⟩)
      · exact ((((g'.trans g4).trans g6).trans g7)).mut hDl (g7.f0 n6 e6)
      · rw [htk, List.filter_append, List.map_append]
        have : [xs[i]].filter f = [xs[i]] := by simp [hf]
        rw [this]
        exact (a'.mono ((g4.trans g6).trans g7).ff).snoc hv
    | false =>
      refine iteF ⟨hlt, F6, ys, (g'.trans g4).trans g6, n6, e6, ?_⟩
      rw [htk, List.filter_append, List.map_append]
      have : [xs[i]].filter f = [] := by simp [hf]
      rw [this, List.map_nil, List.append_nil]
      exact a'.mono (g4.trans g6).ff
  · have e : i = xs.length := by omega
    subst e
    refine .inl ⟨w2, q (.ref Dl) (upd F' Dl (.lst ys)) H' (g2.trans (g'.tell hDl n' e')) ?_⟩
    rw [List.take_length] at a'
    exact ⟨Dl, ys, rfl, upd_same, a'.mono (same_upd n')⟩
/-- a comprehension's block -/
abbrev Blk (X : Cx) (scope : Scope) (s : Shared) (H : Hp) (C : Addr) (cl : List (Str × Addr)) (fp : List Addr) : Cx := X.blk s H scope (compEnvC scope cl C X.env) fp
def gB (X : Cx) (scope : Scope) (tg : Expr) : TG := fun v σ H Q => ∀ s H0 C cl fp, WG (Blk X scope s H0 C cl fp) tg v σ H Q
def tB' (X : Cx) (scope : Scope) (c : Expr) : TT := fun σ H Q => ∀ s H0 C cl fp, WT (Blk X scope s H0 C cl fp) c σ H Q
def eB (X : Cx) (scope : Scope) (e : Expr) : TE := fun σ H Q => ∀ s H0 C cl fp, WE (Blk X scope s H0 C cl fp) e σ H Q
section
variable {α : Type} {X : Cx} {σ : St} {F H : Hp} {elt tg iter c : Expr} {scope : Scope} {pos spos py : Pos} {Dx : α → PyData} {xs : List α} {own : List (Str × Nat)} {y : Str}
/-- what a comprehension's element is made of: target, test, element -/
structure LcOk (X : Cx) (scope : Scope) (own : List (Str × Nat)) (iter : Expr) : Prop where
  calm : X.calm = true
  nd : X.N.Nodup
  ok : blkC X.N X.env.scope scope own = true
  fs : ∀ x, foldedSetIterable iter X.env x = pure x
theorem lcok {N ps : List Str} {sc : Scope} (S : FnScope N ps sc) (hb : blkC N sc scope own = true) (hc : X.calm = true := by rfl) (hN : X.N = N := by rfl) (hsc : X.env.scope = sc := by rfl) (fs : ∀ x, foldedSetIterable iter X.env x = pure x := by intro _; rfl) : LcOk X scope own iter :=
  ⟨hc, hN ▸ S.nd, by rw [hN, hsc]; exact hb, fs⟩
theorem gB_mono : TG.Mono (gB X scope tg) := fun v σ H Q Q' k h s H0 C cl fp => (h s H0 C cl fp).mono k
theorem gb_name {x : Str} {v : V} {Q : St → Hp → Prop} (i : Nat) (hN : X.N.Nodup) (q : Q (σ.set i (some v)) H) (hi : X.N[i]? = some x := by rfl) (hx : ∀ s H0 C cl fp, Loc (Blk X scope s H0 C cl fp).env.scope x := by first | exact fun _ _ _ _ _ => .inl rfl | exact fun _ _ _ _ _ => .inr rfl)
    (hf : ∀ s H0 C cl fp, (Blk X scope s H0 C cl fp).fn x = true ∨ (Blk X scope s H0 C cl fp).env.scope.names.lookup x = some .local := by first | exact fun _ _ _ _ _ => .inr rfl | exact fun _ _ _ _ _ => .inl rfl) : gB X scope (.Name x pos) v σ H Q :=
  fun s H0 C cl fp => wg_name i hN q hi (hx s H0 C cl fp) (hf s H0 C cl fp)
theorem de_lcIf (own : List (Str × Nat)) (o : LcOk X scope own iter) (f : α → Bool) (h : α → PyData) (hi : DI X tg iter σ F H (xs.map Dx)) (hz : xs.length ≤ sizeLine)
    (hs : ∀ x ∈ xs, ∀ v F' H', Gr F H F' H' → Da F' (Dx x) v → gB X scope tg v (wipe σ (own.map (·.2))) H' fun σ2 H2 => H2 = H' ∧ wipe σ2 (own.map (·.2)) = wipe σ (own.map (·.2)) ∧ (∀ s H0 C cl fp, DT (Blk X scope s H0 C cl fp) c σ2 F' H' (f x)) ∧ (f x = true → ∀ s H0 C cl fp, DE (Blk X scope s H0 C cl fp) elt σ2 F' H' (h x))) :
    DE X (.ListComp elt [⟨tg, iter, [c], 0⟩] scope pos) σ F H (.list ((xs.filter f).map h)) := by
  have key := det_lc (g := gB X scope tg) (tt := tB' X scope c) (te := eB X scope elt) (vs := own.map (·.2)) f h hz gB_mono hi (fun x hx v F' H' g hv => gB_mono _ _ _ _ _ (fun σ2 H2 ⟨h1, h2, h3, h4⟩ => ⟨h1, h2, fun F1 H1 g1 Q q s H0 C cl fp => h3 s H0 C cl fp F1 H1 g1 Q q, fun hf F1 H1 g1 Q q s H0 C cl fp => h4 hf s H0 C cl fp F1 H1 g1 Q q⟩) (hs x hx v F' H' g hv))
  exact fun F1 H1 g Q q => we_of (pe_lc o.calm o.nd pi_wi (blkOk_by o.ok) (fun s H0 C cl fp => ⟨fun pins s' σ H v u Q I r h => h s H0 C cl fp pins s' u I r⟩) (fun s H0 C cl fp => pts_one ⟨fun pins s' σ H Q I h => h s H0 C cl fp pins s' I⟩) (fun s H0 C cl fp => ⟨fun pins s' σ H Q I h => h s H0 C cl fp pins s' I⟩) o.fs) (key F1 H1 g Q q)
end
/-! ## defs -/
/-- a def that tells data of data, and leaves all else -/
def spF (n : Nat) (pre : List PyData → Prop) (fn : List PyData → PyData) : Sp := fun vs H Q _ => ∃ F ds, ds.length = n ∧ Same F H ∧ DaAll F ds vs ∧ pre ds ∧ ∀ v F2 H2, Gr F H F2 H2 → Da F2 (fn ds) v → Q v H2
section
variable {P : Program} {w : World} {K : PySem.W.Frag} {mg : Str → Option Value} {base : Heap}
/-- a def's body -/
theorem okW {x qual : Str} {st : Stmt} {f : Addr} {fd : FuncData} {N ps : List Str} {k : Nat} {sp : Sp} (F : Fun K x qual st f fd) (S : FnScope N ps (defScope st)) (len : ∀ vs H Q E, sp vs H Q E → vs.length = ps.length)
    (hbody : ∀ (cdv : Value) (A : Around) (outer : List Env) (s : Shared) (H : Hp) (vs : List V) (Q : VK) (E : XK), Room k (A.deeper (PyProof.Rows.envOfC qual (defScope st) s.heap.objs.size f cdv)) → sp vs H Q E →
      WSs (cxOf CX0 P w K mg base N qual (defScope st) f cdv A outer s H E).nox (defBody st) { nx := fun _ H' => Q .non H', rt := Q } (start N vs) H) : FnOk P w K mg base CX0 (k + 1) f fd ps sp :=
  F.ok S len fun cdv A outer s H vs Q E hr h => ⟨_, pss_wss, hbody cdv A outer s H vs Q E hr h⟩
theorem okF {x qual : Str} {st : Stmt} {f : Addr} {fd : FuncData} {N ps : List Str} {k : Nat} {pre : List PyData → Prop} {fn : List PyData → PyData} (F : Fun K x qual st f fd) (S : FnScope N ps (defScope st))
    (hbody : ∀ (X : Cx) (cdv : Value) (A : Around) (outer : List Env) (s : Shared) (H0 : Hp) (E : XK) (vs : List V) (F H : Hp) (ds : List PyData) (Q : VK), X = (cxOf CX0 P w K mg base N qual (defScope st) f cdv A outer s H0 E).nox → Room k X.A → ds.length = ps.length → Same F H → DaAll F ds vs → pre ds → (∀ v F2 H2, Gr F H F2 H2 → Da F2 (fn ds) v → Q v H2) →
      WSs X (defBody st) { nx := fun _ H' => Q .non H', rt := Q } (start N vs) H) : FnOk P w K mg base CX0 (k + 1) f fd ps (spF ps.length pre fn) :=
  okW F S (fun vs H Q E ⟨F, ds, hl, _, ha, _⟩ => by rw [ha.length, hl]) fun cdv A outer s H vs Q E hr ⟨F, ds, hl, hs, ha, hp, q⟩ => hbody _ cdv A outer s H E vs F H ds Q rfl hr hl hs ha hp q
end
section
variable {X : Cx} {σ : St} {F H : Hp} {e : Expr} {es : List Expr} {ds : List PyData} {k : Nat} {f : Addr} {fd : FuncData} {ps : List Str} {n : Nat} {pre : List PyData → Prop} {fn : List PyData → PyData} {x : Str} {p pos : Pos} {d : PyData}
/-- f(..) -/
theorem de_call (G : FnOk X.prog X.w X.K X.mg X.base CX0 k f fd ps (spF n pre fn)) (hr : Room k X.A) (hm : X.mg x = some (.ref f)) (hk : PySem.W.keepIn X.K (.ref f) = true) (hb : Binds X.K fd ps []) (ha : DL X (e :: es) σ F H ds) (hn : ds.length = n) (hp : pre ds) (he : fn ds = d)
    (hg : Gl X x := by rfl) (hdb : (x == ("__debug__" : Str)) = false := by decide) (l : Pl X e es pos := by exact ⟨rfl, rfl⟩) : DE X (.Call (.Name x p) (e :: es) [] pos) σ F H d := fun F1 H1 g Q q =>
  we_of (pe_call G hr hg hm hk hb .nil pass0 pa_wa hdb l.he l.hpl) (ha F1 H1 g _ fun vs F2 H2 g2 hvs => by
    show spF n pre fn (vs ++ []) H2 Q E0
    rw [List.append_nil]
    exact ⟨F2, ds, hn, g2.fh, hvs, hp, fun v F3 H3 g3 hv => q v F3 H3 (g2.trans g3) (he ▸ hv)⟩)
end
end Kr
/-! layer Kr5 -/
namespace Kr
open PySem L2
/-! ## texts in order -/
def leS (a b : Str) : Bool := !decide (b.cps.toList < a.cps.toList)
theorem leS_iff {a b : Str} : leS a b = true ↔ a.cps.toList ≤ b.cps.toList := by
  unfold leS
  rw [Bool.not_eq_true', decide_eq_false_iff_not]
  exact Iff.rfl
theorem str_ext {a b : Str} (h : a.cps.toList = b.cps.toList) : a = b := by
  cases a; cases b
  simp only at h
  congr
  exact Array.toList_inj.mp h
theorem leS_trans (a b c : Str) (h1 : leS a b = true) (h2 : leS b c = true) : leS a c = true := leS_iff.mpr (List.le_trans (leS_iff.mp h1) (leS_iff.mp h2))
theorem leS_total (a b : Str) : (leS a b || leS b a) = true := by
  rcases List.le_total a.cps.toList b.cps.toList with h | h
  · rw [leS_iff.mpr h]; rfl
  · rw [leS_iff.mpr h, Bool.or_true]
theorem leS_antisymm {a b : Str} (h1 : leS a b = true) (h2 : leS b a = true) : a = b := str_ext (List.le_antisymm (leS_iff.mp h1) (leS_iff.mp h2))
/-- sorted(xs) -/
def srt (xs : List Str) : List Str := xs.mergeSort leS
theorem srt_perm (xs : List Str) : (srt xs).Perm xs := List.mergeSort_perm xs leS
theorem srt_sorted (xs : List Str) : (srt xs).Pairwise (fun a b => leS a b = true) := List.pairwise_mergeSort leS_trans leS_total xs
theorem mem_srt {x : Str} {xs : List Str} : x ∈ srt xs ↔ x ∈ xs := (srt_perm xs).mem_iff
theorem sorted_unique : ∀ {xs ys : List Str}, xs.Perm ys → xs.Pairwise (fun a b => leS a b = true) → ys.Pairwise (fun a b => leS a b = true) → xs = ys
  | [], ys, p, _, _ => (List.nil_perm.mp p).symm
  | x :: xs, [], p, _, _ => by simpa using p.length_eq
  | x :: xs, y :: ys, p, h1, h2 => by
    have e : x = y := by
      have hx : x ∈ y :: ys := p.mem_iff.mp List.mem_cons_self
      have hy : y ∈ x :: xs := p.mem_iff.mpr List.mem_cons_self
      rcases List.mem_cons.mp hx with e | hx
      · exact e
      rcases List.mem_cons.mp hy with e | hy
      · exact e.symm
      exact leS_antisymm (List.rel_of_pairwise_cons h1 hy) (List.rel_of_pairwise_cons h2 hx)
    subst e
    rw [sorted_unique (List.Perm.cons_inv p) h1.of_cons h2.of_cons]
theorem sortedS_pairwise : ∀ {xs : List Str}, PyProof.Rows.sortedS xs = true → xs.Pairwise (fun a b => leS a b = true)
  | [], _ => .nil
  | [x], _ => by simp
  | x :: y :: r, h => by
    have h' : (!Spec.ltCps y.cps.toList x.cps.toList) = true ∧ PyProof.Rows.sortedS (y :: r) = true := by simpa [PyProof.Rows.sortedS, PyProof.Rows.risingS] using h
    have ih := sortedS_pairwise h'.2
    have hxy : leS x y = true := by
      unfold leS
      rw [PyProof.Rows.lt_meets]
      exact h'.1
    refine List.pairwise_cons.mpr ⟨fun z hz => ?_, ih⟩
    rcases List.mem_cons.mp hz with rfl | hz
    · exact hxy
    · exact leS_trans _ _ _ hxy (List.rel_of_pairwise_cons ih hz)
theorem srt_eq {xs ys : List Str} (p : ys.Perm xs) (h : PyProof.Rows.sortedS ys = true) : ys = srt xs := sorted_unique (p.trans (srt_perm xs).symm) (sortedS_pairwise h) (srt_sorted xs)
/-! ## rules -/
section
variable {X : Cx} {σ : St} {F H : Hp} {e a b c : Expr} {es : List Expr} {d d1 d2 : PyData} {ds : List PyData} {v : V} {i j k : Int} {pos p : Pos} {x y : Str} {bb cc : Bool}
/-- sorted of texts, any number -/
def rSortedSA (K : PySem.W.Frag) : List V → Hp → VK → Prop := fun vs H Q => ∃ (a : Addr) (xs : List Str), vs = [V.ref a] ∧ SqL K H a (xs.map V.str) ∧ ∀ (p : Addr), H p = none → Q (.ref p) (upd H p (.lst ((srt xs).map V.str)))
theorem cr_sortedSA : CallR X (.builtin "sorted") (rSortedSA X.K) := by
  intro pins s σ H vs us Q I r h
  obtain ⟨a, xs, rfl, hs, q⟩ := h
  obtain ⟨its, rv, hl, hz⟩ := I.list hs
  rw [Vals.ref1 r]
  have hlen0 := rv.length
  refine PyProof.Rows.sorted_strsAny hl.isList rv.strs (by rw [← hlen0]; exact hz) fun out ys h1 h2 h3 => ?_
  obtain ⟨ep, he'⟩ := PyProof.Rows.sortedAll_at s.heap its out
  have hlen : (ys.map V.str).length ≤ sizeLine := by rw [List.length_map, h2.length_eq]; rw [List.length_map] at hz; exact hz
  have ey := srt_eq h2 h3
  subst ey
  exact ⟨.ref _, upd H (s.heap.objs.size + 1) (.lst ((srt xs).map V.str)), I.laid (t' := s.toks) (fun _ _ => PyProof.Rows.sortedAll_old) (Nat.le_succ _) ⟨hlen, out.toList, ep, vals_of_strs h1, he'⟩, rfl, q _ (I.hok.fresh (Nat.le_succ _))⟩
theorem de_sortedS {xs : List Str} (hm : X.mg "sorted" = none) (ha : DE X e σ F H (.list (xs.map .str))) (hg : Gl X "sorted" := by rfl) (l : Pl X e [] pos := by exact ⟨rfl, rfl⟩) : DE X (.Call (.Name "sorted" p) [e] [] pos) σ F H (.list ((srt xs).map .str)) :=
  de_callB cr_sortedSA hg hm (by decide +kernel) (dl_cons ha dl_nil l.he) (fun vs F1 H1 g1 hv Q q => by
    obtain ⟨v, rfl, a, ys, rfl, h1, h2⟩ := daAll1 hv
    obtain rfl := h2.strs
    exact ⟨_, xs, rfl, SqL.of (g1.fh _ _ h1), fun l hl => q _ (upd F1 l (.lst _)) _ ((Gr.refl g1.fh).shut hl) ⟨l, _, rfl, upd_same, daAll_strs _⟩⟩) ⟨by decide, by decide⟩ l
/-- lists of unlike lengths -/
def rEqLen (K : PySem.W.Frag) : R2 := fun x y H Q => ∃ a b xs ys, x = .ref a ∧ y = .ref b ∧ SqL K H a xs ∧ SqL K H b ys ∧ xs.length ≠ ys.length ∧ Q (.bl false) H
theorem op_eqLen (hu : X.A.units + 64 < cLine) : OpR X (compareOp .Eq) (rEqLen X.K) := by
  intro pins s σ H x y v u Q I rx ry h
  obtain ⟨a, b, xs, ys, rfl, rfl, h1, h2, hne, q⟩ := h
  cases rx; cases ry
  obtain ⟨its, rv, hl, hz⟩ := I.list h1
  obtain ⟨its2, rv2, hl2, hz2⟩ := I.list h2
  refine SeqAt.eq_list_lengthsAt hl.isList hl2.isList ?_ (by omega) ⟨.bl false, H, I, rfl, q⟩
  have e1 := rv.length
  have e2 := rv2.length
  simp only [List.size_toArray, bne_iff_ne, ne_eq]
  omega
/-- e == [] -/
theorem c_eqNil (hu : X.A.units + 64 < cLine) (ha : DE X a σ F H (.list ds)) {lp : Pos} : DC X .Eq a (.List [] lp) σ F H ds.isEmpty := by
  cases ds with
  | nil => exact c_eq hu ha (de_lst dl_nil) (by rfl) (by rfl)
  | cons d0 ds =>
    exact c_cmp (op_eqLen hu) (nomark _) ha (de_lst dl_nil) fun x y F1 H1 g1 hx hy Q q => by
      obtain ⟨p, xs, rfl, h1, h2⟩ := hx
      obtain ⟨r, ys, rfl, h3, h4⟩ := hy
      obtain rfl : ys = [] := h4
      exact ⟨p, r, xs, [], rfl, rfl, SqL.of (g1.fh _ _ h1), SqL.of (g1.fh _ _ h3), by rw [h2.length]; simp, q _ F1 H1 (.refl g1.fh) rfl⟩
def rNeLen (K : PySem.W.Frag) : R2 := fun x y H Q => ∃ a b xs ys, x = .ref a ∧ y = .ref b ∧ SqL K H a xs ∧ SqL K H b ys ∧ xs.length ≠ ys.length ∧ Q (.bl true) H
theorem c_notInSign {z : Str} {cp : Nat} (ha : DE X a σ F H (.str ⟨#[cp]⟩)) (hb : DE X b σ F H (.str z)) (hm : behindInMarks .NotIn b = false := by rfl) : DC X .NotIn a b σ F H (!decide (cp ∈ z.cps.toList)) :=
  c_cmp op_notIn_sign hm ha hb fun x y F1 H1 g1 hx hy Q q => ⟨cp, z, hx, hy, q _ F1 H1 (.refl g1.fh) rfl⟩
/-- a module's constant -/
def Mg (mg : Str → Option Value) (x : Str) (v : V) : Prop := ∃ u, mg x = some u ∧ RelV v u
theorem ve_glob (h : Mg X.mg x v) (hg : Gl X x := by rfl) (hd : (x == ("__debug__" : Str)) = false := by decide) : VE X (.Name x pos) σ F H v := by
  obtain ⟨u, h1, h2⟩ := h
  exact ve_of (pe_glob hg h1 h2 hd) fun _ _ _ _ q => q
end
end Kr
/-! layer Kr6 -/
namespace Kr
open PySem L2
/-! ## sizes -/
mutual
def SzD : PyData → Prop
  | .str x => x.length ≤ 100000
  | .list ds => ds.length ≤ 100000 ∧ SzAll ds
  | .tuple ds => SzAll ds
  | .dict kvs => noExK kvs = true
  | _ => True
def SzAll : List PyData → Prop
  | [] => True
  | d :: ds => SzD d ∧ SzAll ds
end
theorem SzD.noEx {d : PyData} (h : SzD d) : noEx d = true := by
  cases d with
  | dict kvs => exact h
  | _ => rfl
theorem SzAll.mem : ∀ {ds : List PyData} {d : PyData}, SzAll ds → d ∈ ds → SzD d
  | d0 :: ds, d, h, m => by
    rcases List.mem_cons.mp m with rfl | m
    · exact h.1
    · exact SzAll.mem h.2 m
theorem szAll_of : ∀ {ds : List PyData}, (∀ d ∈ ds, SzD d) → SzAll ds
  | [], _ => True.intro
  | d :: ds, h => ⟨h d List.mem_cons_self, szAll_of fun x m => h x (List.mem_cons_of_mem _ m)⟩
theorem SzAll.get {ds : List PyData} {i : Nat} {d : PyData} (h : SzAll ds) (e : ds[i]? = some d) : SzD d := h.mem (List.mem_of_getElem? e)
theorem sz100 {n : Nat} (h : n ≤ 100000) : n ≤ sizeLine := Nat.le_trans h (by decide)
/-! ## kinds, rooms, houses -/
def letters : Str := "abcdefghijklmnopqrstuvwxyz"
def isKind (x : Str) : Bool := decide ((1 : Int) ≤ x.length) && decide ((x.length : Int) ≤ 4) && x.cps.toList.all fun c => decide (c ∈ letters.cps.toList)
def isKindD : PyData → Bool
  | .str x => isKind x
  | _ => false
def areKeysD : PyData → Bool
  | .list ds => ds.all isKindD
  | _ => false
def ksD (ks : List Str) : PyData := .list (ks.map .str)
/-- the texts of data that are kinds -/
def strsOf (ds : List PyData) : List Str := ds.filterMap fun d => match d with | .str x => some x | _ => none
theorem strsOf_eq : ∀ {ds : List PyData}, ds.all isKindD = true → ds = (strsOf ds).map .str
  | [], _ => rfl
  | d :: ds, h => by
    have h' : isKindD d = true ∧ ds.all isKindD = true := by simpa using h
    cases d with
    | str x =>
      show PyData.str x :: ds = PyData.str x :: (strsOf ds).map .str
      rw [← strsOf_eq h'.2]
    | _ => exact absurd h'.1 (by simp [isKindD])
theorem strsOf_strs (ks : List Str) : strsOf (ks.map .str) = ks := by
  induction ks with
  | nil => rfl
  | cons k ks ih => show k :: strsOf (ks.map .str) = _; rw [ih]
def isRoomD : PyData → Bool
  | .tuple [l, k] => areKeysD l && areKeysD k && (match l with
    | .list ds => decide ((1 : Int) ≤ ds.length) && decide ((ds.length : Int) ≤ 4) && decide (strsOf ds = srt (strsOf ds))
    | _ => false)
  | _ => false
def isHouseD : PyData → Bool
  | .tuple [k, .list rs] => areKeysD k && rs.all isRoomD
  | _ => false
abbrev Room' := List Str × List Str
abbrev House := List Str × List Room'
def roomD (r : Room') : PyData := .tuple [ksD r.1, ksD r.2]
def houseD (h : House) : PyData := .tuple [ksD h.1, .list (h.2.map roomD)]
def goodRoom (r : Room') : Prop := (∀ k ∈ r.1, isKind k = true) ∧ (∀ k ∈ r.2, isKind k = true) ∧ 1 ≤ r.1.length ∧ r.1.length ≤ 4 ∧ srt r.1 = r.1
structure GoodHouse (h : House) : Prop where
  keys : ∀ k ∈ h.1, isKind k = true
  rooms : ∀ r ∈ h.2, goodRoom r
  few : h.1.length ≤ 100000
  many : h.2.length ≤ 100000
  each : ∀ r ∈ h.2, r.2.length ≤ 100000
theorem isKind_len {x : Str} (h : isKind x = true) : 1 ≤ x.length ∧ x.length ≤ 4 := by
  unfold isKind at h
  simp only [Bool.and_eq_true, decide_eq_true_eq] at h
  omega
theorem areKeysD_ks {ks : List Str} (h : ∀ k ∈ ks, isKind k = true) : areKeysD (ksD ks) = true := by
  simp only [areKeysD, ksD, List.all_map, List.all_eq_true]
  exact fun k hk => h k hk
theorem isRoomD_room {r : Room'} (h : goodRoom r) : isRoomD (roomD r) = true := by
  obtain ⟨h1, h2, h3, h4, h5⟩ := h
  simp only [roomD, isRoomD, areKeysD_ks h1, areKeysD_ks h2, Bool.true_and, ksD, strsOf_strs, h5, List.length_map, decide_true, Bool.and_true, Bool.and_eq_true, decide_eq_true_eq]
  exact ⟨⟨areKeysD_ks h1, areKeysD_ks h2⟩, by omega, by omega⟩
theorem isHouseD_house {h : House} (g : GoodHouse h) : isHouseD (houseD h) = true := by
  simp only [houseD, isHouseD, areKeysD_ks g.keys, Bool.true_and, List.all_map, List.all_eq_true]
  exact fun r hr => isRoomD_room (g.rooms r hr)
theorem szD_ks {ks : List Str} (h : ∀ k ∈ ks, isKind k = true) (hl : ks.length ≤ 100000) : SzD (ksD ks) := by
  refine ⟨by rw [List.length_map]; exact hl, szAll_of fun d m => ?_⟩
  obtain ⟨k, hk, rfl⟩ := List.mem_map.mp m
  have := isKind_len (h k hk)
  show k.length ≤ 100000
  omega
theorem szD_room {r : Room'} (h : goodRoom r) (hl : r.2.length ≤ 100000) : SzD (roomD r) := ⟨szD_ks h.1 (by have := h.2.2.2.1; omega), szD_ks h.2.1 hl, True.intro⟩
theorem szD_house {h : House} (g : GoodHouse h) : SzD (houseD h) := by
  refine ⟨szD_ks g.keys g.few, ⟨by rw [List.length_map]; exact g.many, szAll_of fun d m => ?_⟩, True.intro⟩
  obtain ⟨r, hr, rfl⟩ := List.mem_map.mp m
  exact szD_room (g.rooms r hr) (g.each r hr)
/-- a list of which none is out -/
theorem filter_none {α : Type} (xs : List α) (p : α → Bool) (h : α → PyData) : ((xs.filter fun x => !p x).map h).isEmpty = xs.all p := by
  induction xs with
  | nil => rfl
  | cons x xs ih =>
    cases hp : p x with
    | true => simp only [List.filter_cons, hp, Bool.not_true, Bool.false_eq_true, if_false, List.all_cons, Bool.true_and]; exact ih
    | false => simp only [List.filter_cons, hp, Bool.not_false, if_true, List.map_cons, List.isEmpty_cons, List.all_cons, Bool.false_and]
/-! ## equality of kinds, rooms, houses -/
theorem letters_lt : ∀ c ∈ letters.cps.toList, c < 0x110000 := by decide +kernel
theorem strOk_kind {x : Str} (h : isKind x = true) : PyData.strOk x = true := by
  unfold isKind at h
  simp only [Bool.and_eq_true, List.all_eq_true, decide_eq_true_eq] at h
  unfold PyData.strOk
  rw [← Array.all_toList, List.all_eq_true]
  exact fun c hc => decide_eq_true (letters_lt c (h.2 c hc))
theorem eqvAll_strs : ∀ a b : List Str, PyData.eqvAll (a.map .str) (b.map .str) = decide (a = b)
  | [], [] => by simp [PyData.eqvAll]
  | [], _ :: _ => by simp [PyData.eqvAll]
  | _ :: _, [] => by simp [PyData.eqvAll]
  | x :: a, y :: b => by
    simp only [List.map_cons, PyData.eqvAll, PyData.eqv, eqvAll_strs a b, List.cons.injEq]
    by_cases h : x = y <;> simp [h]
theorem eqv_ks (a b : List Str) : PyData.eqv (ksD a) (ksD b) = decide (a = b) := by simp only [ksD, PyData.eqv, eqvAll_strs]
/-- laid, and so deep at most -/
def Lay (n : Nat) (d : PyData) : Prop := d.canLay0 = true ∧ d.depth ≤ n
theorem Lay.shaped {n : Nat} {d : PyData} (h : Lay n d) (hn : n ≤ 64 := by decide) : SeqAt.shaped d = true := by
  unfold SeqAt.shaped
  rw [h.1, decide_eq_true (Nat.le_trans h.2 hn)]
  rfl
theorem lay_all : ∀ {n : Nat} {ds : List PyData}, (∀ d ∈ ds, Lay n d) → PyData.canLayAll0 ds = true ∧ PyData.depthAll ds ≤ n
  | n, [], _ => ⟨by simp [PyData.canLayAll0], by simp [PyData.depthAll]⟩
  | n, d :: ds, h => by
    obtain ⟨h1, h2⟩ := lay_all fun x m => h x (List.mem_cons_of_mem _ m)
    obtain ⟨h3, h4⟩ := h d List.mem_cons_self
    exact ⟨by simp [PyData.canLayAll0, h1, h3], by simp only [PyData.depthAll]; omega⟩
theorem lay_list {n : Nat} {ds : List PyData} (h : ∀ d ∈ ds, Lay n d) : Lay (n + 1) (.list ds) := by
  obtain ⟨h1, h2⟩ := lay_all h
  exact ⟨by simp only [PyData.canLay0]; exact h1, by simp only [PyData.depth]; omega⟩
theorem Lay.up {n m : Nat} {d : PyData} (h : Lay n d) (e : n ≤ m) : Lay m d := ⟨h.1, Nat.le_trans h.2 e⟩
theorem lay_str {x : Str} (h : PyData.strOk x = true) {n : Nat} : Lay n (.str x) := ⟨by simp [PyData.canLay0, h], by simp [PyData.depth]⟩
theorem lay_ks {ks : List Str} (h : ∀ k ∈ ks, isKind k = true) : Lay 1 (ksD ks) := lay_list fun d m => by
  obtain ⟨k, hk, rfl⟩ := List.mem_map.mp m
  exact lay_str (strOk_kind (h k hk))
/-! ## isinstance of data -/
theorem kit_str : ∀ d : PyData, kitB (tyName d) "str" = some (match d with | .str _ => true | _ => false)
  | .none => by show kitB "NoneType" "str" = some false; decide +kernel
  | .bool _ => by show kitB "bool" "str" = some false; decide +kernel
  | .int _ => by show kitB "int" "str" = some false; decide +kernel
  | .str _ => by show kitB "str" "str" = some true; decide +kernel
  | .list _ => by show kitB "list" "str" = some false; decide +kernel
  | .tuple _ => by show kitB "tuple" "str" = some false; decide +kernel
  | .dict _ => by show kitB "dict" "str" = some false; decide +kernel
theorem kit_list : ∀ d : PyData, kitB (tyName d) "list" = some (match d with | .list _ => true | _ => false)
  | .none => by show kitB "NoneType" "list" = some false; decide +kernel
  | .bool _ => by show kitB "bool" "list" = some false; decide +kernel
  | .int _ => by show kitB "int" "list" = some false; decide +kernel
  | .str _ => by show kitB "str" "list" = some false; decide +kernel
  | .list _ => by show kitB "list" "list" = some true; decide +kernel
  | .tuple _ => by show kitB "tuple" "list" = some false; decide +kernel
  | .dict _ => by show kitB "dict" "list" = some false; decide +kernel
theorem kit_tuple : ∀ d : PyData, kitB (tyName d) "tuple" = some (match d with | .tuple _ => true | _ => false)
  | .none => by show kitB "NoneType" "tuple" = some false; decide +kernel
  | .bool _ => by show kitB "bool" "tuple" = some false; decide +kernel
  | .int _ => by show kitB "int" "tuple" = some false; decide +kernel
  | .str _ => by show kitB "str" "tuple" = some false; decide +kernel
  | .list _ => by show kitB "list" "tuple" = some false; decide +kernel
  | .tuple _ => by show kitB "tuple" "tuple" = some true; decide +kernel
  | .dict _ => by show kitB "dict" "tuple" = some false; decide +kernel
def pre1 (A : PyData → Prop) : List PyData → Prop := fun ds => ∃ d, ds = [d] ∧ A d
def fn1 (f : PyData → PyData) : List PyData → PyData := fun ds => f (ds.getD 0 .none)
end Kr
/-! layer Kr7 -/
namespace Kr
open PySem L2
/-! ## the pool -/
def Pool (H : Hp) (p : Addr) (n : Nat) : Prop := ∃ c m s : Int, H p = some (.lst [.int c, .int m, .int s]) ∧ (m = 0 ∨ m = 1) ∧ 0 ≤ s ∧ s ≤ n
theorem Pool.some {H : Hp} {p : Addr} {n : Nat} (h : Pool H p n) : ∃ o, H p = some o := by
  obtain ⟨c, m, s, h, _⟩ := h
  exact ⟨_, h⟩
theorem Pool.mono {H H' : Hp} {p : Addr} {n m : Nat} (h : Pool H p n) (s : Same H H') (e : n ≤ m := by omega) : Pool H' p m := by
  obtain ⟨c, k, t, h, h1, h2, h3⟩ := h
  exact ⟨c, k, t, s _ _ h, h1, h2, by omega⟩
/-- heaps that grow, the pool at p apart -/
structure Gp (p : Addr) (F H F2 H2 : Hp) : Prop where
  ff : Same F F2
  fh : Same F2 H2
  hh : ∀ b o, b ≠ p → H b = some o → H2 b = some o
  at' : H p ≠ none → H2 p ≠ none
  new : ∀ b, F b = none → H b ≠ none → F2 b = none
section
variable {p : Addr} {F H F1 H1 F2 H2 : Hp}
theorem Gr.gp (g : Gr F H F1 H1) : Gp p F H F1 H1 := ⟨g.ff, g.fh, fun b o _ e => g.hh _ _ e, fun n z => n (g.hh.free z), g.new⟩
theorem Gp.refl (s : Same F H) : Gp p F H F H := (Gr.refl s).gp
theorem Gp.trans (a : Gp p F H F1 H1) (b : Gp p F1 H1 F2 H2) : Gp p F H F2 H2 :=
  ⟨a.ff.trans b.ff, b.fh, fun c o n e => b.hh c o n (a.hh c o n e), fun n => b.at' (a.at' n), fun c e n => b.new c (a.new c e n) (by
    by_cases hc : c = p
    · subst hc; exact a.at' n
    · intro z
      cases hn : H c with
      | none => exact n hn
      | some o => rw [a.hh c o hc hn] at z; cases z)⟩
theorem Gp.pool (g : Gp p F H F1 H1) {o : HO} (h : F1 p = none) : Gp p F H F1 (upd H1 p o) :=
  ⟨g.ff, same_mut g.fh h, fun b u n e => (by rw [upd_ne n]; exact g.hh b u n e), fun _ => (by rw [upd_same]; exact fun z => nomatch z), g.new⟩
theorem Gp.da (g : Gp p F H F1 H1) {d : PyData} {v : V} (h : Da F d v) : Da F1 d v := h.mono g.ff
theorem Gp.f0 (g : Gp p F H F1 H1) {q : Addr} {o : HO} (h : F q = none) (hH : H q = some o) : F1 q = none := g.new q h (by rw [hH]; exact fun z => nomatch z)
/-- a new object that stays open -/
theorem Gp.open' (g : Gp p F H F1 H1) {q : Addr} {o : HO} (h : H1 q = none) (hp : H p ≠ none) : Gp p F H F1 (upd H1 q o) :=
  ⟨g.ff, same_mut g.fh (g.fh.free h), fun b u n e => by
    have : b ≠ q := fun z => by subst z; rw [g.hh _ _ n e] at h; cases h
    rw [upd_ne this]; exact g.hh b u n e, fun n => by
    have : p ≠ q := fun z => by subst z; exact g.at' hp h
    rw [upd_ne this]; exact g.at' n, g.new⟩
theorem Gp.shut (g : Gp p F H F1 H1) {q : Addr} {o : HO} (h : H1 q = none) (hp : H p ≠ none) : Gp p F H (upd F1 q o) (upd H1 q o) := by
  have g2 := g.open' (o := o) h hp
  refine ⟨g.ff.trans (same_upd (g.fh.free h)), same_both g.fh, g2.hh, g2.at', fun b e n => ?_⟩
  have hb : b ≠ q := fun z => by
    subst z
    by_cases hbp : b = p
    · subst hbp; exact g.at' n h
    · cases hn : H b with
      | none => exact n hn
      | some o => rw [g.hh b o hbp hn] at h; cases h
  rw [upd_ne hb]; exact g.new b e n
/-- an open object of our own changes -/
theorem Gp.mut (g : Gp p F H F1 H1) {q : Addr} {o : HO} (h : H q = none) (hq : q ≠ p) (h1 : F1 q = none) : Gp p F H F1 (upd H1 q o) :=
  ⟨g.ff, same_mut g.fh h1, fun b u n e => (by rw [upd_ne (ne_of_none e h)]; exact g.hh b u n e), fun n => (by rw [upd_ne (fun z => hq z.symm)]; exact g.at' n), g.new⟩
theorem Gp.tell (g : Gp p F H F1 H1) {q : Addr} {o : HO} (h : H q = none) (h1 : F1 q = none) (ho : H1 q = some o) : Gp p F H (upd F1 q o) H1 :=
  ⟨g.ff.trans (same_upd h1), fun b x e => by
    by_cases hb : b = q
    · subst hb; rw [upd_same] at e; rw [ho]; exact e
    · rw [upd_ne hb] at e; exact g.fh _ _ e, g.hh, g.at', fun b e n => by
    have hb : b ≠ q := fun z => by subst z; exact n h
    rw [upd_ne hb]; exact g.new b e n⟩
theorem gr_ff (s : Same F H) : Gr F F F H := ⟨Same.refl _, s, s, fun _ e n => absurd e n⟩
end
section
variable {X : Cx} {σ : St} {F H : Hp} {e : Expr} {d : PyData} {v : V} {b : Bool} {es : List Expr} {ds : List PyData}
/-- what hangs on the told heap alone, at any heap -/
theorem DE.at (h : DE X e σ F F d) (s : Same F H) {Q : VK} (q : ∀ v F2 H2, Gr F H F2 H2 → Da F2 d v → Q v H2) : WE X e σ H Q := h F H (gr_ff s) Q q
theorem VE.at (h : VE X e σ F F v) (s : Same F H) {Q : VK} (q : ∀ F2 H2, Gr F H F2 H2 → Q v H2) : WE X e σ H Q := h F H (gr_ff s) Q q
theorem DT.at (h : DT X e σ F F b) (s : Same F H) {Q : Bool → Hp → Prop} (q : ∀ F2 H2, Gr F H F2 H2 → Q b H2) : WT X e σ H Q := h F H (gr_ff s) Q q
theorem DL.at (h : DL X es σ F F ds) (s : Same F H) {Q : List V → Hp → Prop} (q : ∀ vs F2 H2, Gr F H F2 H2 → DaAll F2 ds vs → Q vs H2) : WA X es σ H Q := h F H (gr_ff s) Q q
theorem DE.f {F' : Hp} (h : DE X e σ F F d) (s : Same F F') : DE X e σ F' F' d := h.mono ⟨s, Same.refl _, s, fun _ e n => absurd e n⟩
theorem DE.fh (h : DE X e σ F F d) (s : Same F H) : DE X e σ F H d := h.mono (gr_ff s)
end
/-! ## expressions that draw: of c drawings, told is one of R -/
def Px (p : Addr) (c : Nat) (X : Cx) (e : Expr) (σ : St) (F : Hp) (R : PyData → Prop) : Prop := ∀ n F1 H1, Same F F1 → Same F1 H1 → F1 p = none → Pool H1 p n → n + c ≤ 1000000 → ∀ Q : VK, (∀ d v F2 H2, Gp p F1 H1 F2 H2 → Pool H2 p (n + c) → Da F2 d v → R d → Q v H2) → WE X e σ H1 Q
def PxT (p : Addr) (c : Nat) (X : Cx) (e : Expr) (σ : St) (F : Hp) (R : Bool → Prop) : Prop := ∀ n F1 H1, Same F F1 → Same F1 H1 → F1 p = none → Pool H1 p n → n + c ≤ 1000000 → ∀ Q : Bool → Hp → Prop, (∀ b F2 H2, Gp p F1 H1 F2 H2 → Pool H2 p (n + c) → R b → Q b H2) → WT X e σ H1 Q
section
variable {p : Addr} {c c1 c2 : Nat} {X : Cx} {σ : St} {F H : Hp} {e a b : Expr} {d : PyData} {ds : List PyData} {R R' : PyData → Prop} {pos q : Pos} {x : Str} {i j : Int}
theorem Px.imp (h : Px p c X e σ F R) (k : ∀ d, R d → R' d) : Px p c X e σ F R' := fun n F1 H1 s1 s2 f P hc Q q => h n F1 H1 s1 s2 f P hc Q fun d v F2 H2 g P2 hd hR => q d v F2 H2 g P2 hd (k d hR)
theorem Px.mono {F' : Hp} (h : Px p c X e σ F R) (s : Same F F') : Px p c X e σ F' R := fun n F1 H1 s1 s2 f P hc Q q => h n F1 H1 (s.trans s1) s2 f P hc Q q
theorem Px.up (h : Px p c X e σ F R) (hc : c ≤ c1) : Px p c1 X e σ F R := fun n F1 H1 s1 s2 f P hn Q q => h n F1 H1 s1 s2 f P (by omega) Q fun d v F2 H2 g P2 hd hR => q d v F2 H2 g (P2.mono (Same.refl _) (by omega)) hd hR
theorem Px.go {n : Nat} (h : Px p c X e σ F R) (s : Same F H) (f : F p = none) (P : Pool H p n) (hn : n + c ≤ 1000000) {Q : VK} (q : ∀ d v F2 H2, Gp p F H F2 H2 → Pool H2 p (n + c) → Da F2 d v → R d → Q v H2) : WE X e σ H Q := h n F H (Same.refl _) s f P hn Q q
theorem PxT.go {R : Bool → Prop} {n : Nat} (h : PxT p c X e σ F R) (s : Same F H) (f : F p = none) (P : Pool H p n) (hn : n + c ≤ 1000000) {Q : Bool → Hp → Prop} (q : ∀ b F2 H2, Gp p F H F2 H2 → Pool H2 p (n + c) → R b → Q b H2) : WT X e σ H Q := h n F H (Same.refl _) s f P hn Q q
end
/-! ## comprehensions that draw -/
/-- .. and what is told is new -/
def PxN (p : Addr) (c : Nat) (X : Cx) (e : Expr) (σ : St) (F : Hp) (R : PyData → Prop) : Prop := ∀ n F1 H1, Same F F1 → Same F1 H1 → F1 p = none → Pool H1 p n → n + c ≤ 1000000 → ∀ Q : VK, (∀ d v F2 H2, Gp p F1 H1 F2 H2 → Pool H2 p (n + c) → Da F2 d v → R d → (∀ a, v = .ref a → H1 a = none) → Q v H2) → WE X e σ H1 Q
theorem PxN.imp {p : Addr} {c : Nat} {X : Cx} {e : Expr} {σ : St} {F : Hp} {R R' : PyData → Prop} (h : PxN p c X e σ F R) (k : ∀ d, R d → R' d) : PxN p c X e σ F R' := fun n F1 H1 s1 s2 f P hn Q q => h n F1 H1 s1 s2 f P hn Q fun d v F2 H2 g P2 hd hR hf => q d v F2 H2 g P2 hd (k d hR) hf
theorem PxN.up {p : Addr} {c c1 : Nat} {X : Cx} {e : Expr} {σ : St} {F : Hp} {R : PyData → Prop} (h : PxN p c X e σ F R) (hc : c ≤ c1) : PxN p c1 X e σ F R := fun n F1 H1 s1 s2 f P hn Q q => h n F1 H1 s1 s2 f P (by omega) Q fun d v F2 H2 g P2 hd hR hf => q d v F2 H2 g (P2.mono (Same.refl _) (by omega)) hd hR hf
theorem PxN.go {p : Addr} {c n : Nat} {X : Cx} {e : Expr} {σ : St} {F H : Hp} {R : PyData → Prop} (h : PxN p c X e σ F R) (s : Same F H) (f : F p = none) (P : Pool H p n) (hn : n + c ≤ 1000000) {Q : VK} (q : ∀ d v F2 H2, Gp p F H F2 H2 → Pool H2 p (n + c) → Da F2 d v → R d → (∀ a, v = .ref a → H a = none) → Q v H2) : WE X e σ H Q := h n F H (Same.refl _) s f P hn Q q
/-! ## defs that draw -/
/-- .. that tells a new thing -/
def spN (c n : Nat) (pre : List PyData → Prop) (post : List PyData → PyData → Prop) : Sp := fun vs H Q _ => ∃ (p : Addr) (m : Nat) (F : Hp) (ds : List PyData) (us : List V), vs = .ref p :: us ∧ ds.length = n ∧ Pool H p m ∧ m + c ≤ 1000000 ∧ Same F H ∧ F p = none ∧ DaAll F ds us ∧ pre ds ∧
  ∀ d v F2 H2, Gp p F H F2 H2 → Pool H2 p (m + c) → Da F2 d v → post ds d → (∀ a, v = .ref a → H a = none) → Q v H2
section
variable {P : Program} {w : World} {K : PySem.W.Frag} {mg : Str → Option Value} {base : Heap}
theorem okN {x qual : Str} {st : Stmt} {f : Addr} {fd : FuncData} {N ps : List Str} {k c n : Nat} {pre : List PyData → Prop} {post : List PyData → PyData → Prop} (F : Fun K x qual st f fd) (S : FnScope N ps (defScope st)) (hn : ps.length = n + 1)
    (hbody : ∀ (X : Cx) (cdv : Value) (A : Around) (outer : List Env) (s : Shared) (H0 : Hp) (E : XK) (p : Addr) (m : Nat) (us : List V) (F H : Hp) (ds : List PyData) (Q : VK), X = (cxOf CX0 P w K mg base N qual (defScope st) f cdv A outer s H0 E).nox → Room k X.A → Pool H p m → m + c ≤ 1000000 → Same F H → F p = none → DaAll F ds us → pre ds →
      (∀ d v F2 H2, Gp p F H F2 H2 → Pool H2 p (m + c) → Da F2 d v → post ds d → (∀ a, v = .ref a → H a = none) → Q v H2) → WSs X (defBody st) { nx := fun _ H' => Q .non H', rt := Q } (start N (.ref p :: us)) H) : FnOk P w K mg base CX0 (k + 1) f fd ps (spN c n pre post) :=
  okW F S (fun vs H Q E ⟨p, m, F, ds, us, e, hl, _, _, _, _, ha, _⟩ => by rw [e, List.length_cons, ha.length, hl, hn]) fun cdv A outer s H vs Q E hr ⟨p, m, F, ds, us, e, hl, hP, hm, hs, hp, ha, hpre, q⟩ => by
    subst e
    exact hbody _ cdv A outer s H E p m us F H ds Q rfl hr hP hm hs hp ha hpre q
end
/-! ## the script -/
end Kr
/-! layer Kr8 -/
namespace Kr
open PySem L2
/-! ## texts of letters -/
def LS (x : Str) : Prop := ∀ c ∈ x.cps.toList, c ∈ letters.cps.toList
theorem isKind_iff {x : Str} : isKind x = true ↔ LS x ∧ 1 ≤ x.length ∧ x.length ≤ 4 := by
  unfold isKind LS
  simp only [Bool.and_eq_true, List.all_eq_true, decide_eq_true_eq]
  constructor
  · rintro ⟨⟨h1, h2⟩, h3⟩; exact ⟨h3, by omega, by omega⟩
  · rintro ⟨h1, h2, h3⟩; exact ⟨⟨by omega, by omega⟩, h1⟩
theorem str_append_cps (x y : Str) : (x ++ y).cps.toList = x.cps.toList ++ y.cps.toList := by
  show (x.cps ++ y.cps).toList = _
  simp
theorem LS.append {x y : Str} (h : LS x) (h' : LS y) : LS (x ++ y) := fun c hc => by
  rw [str_append_cps] at hc
  rcases List.mem_append.mp hc with z | z
  · exact h c z
  · exact h' c z
theorem LS.one {c : Nat} (h : c ∈ letters.cps.toList) : LS ⟨#[c]⟩ := fun d hd => by
  have : d = c := by simpa using hd
  rw [this]; exact h
theorem cutS_mem {z : Str} {lo hi : Option Int} {c : Nat} (h : c ∈ (cutS z lo hi).cps.toList) : c ∈ z.cps.toList := by
  unfold cutS at h
  simp only at h
  rw [List.toList_toArray] at h
  exact List.mem_of_mem_drop (List.mem_of_mem_take h)
theorem LS.cut {z : Str} (h : LS z) (lo hi : Option Int) : LS (cutS z lo hi) := fun c hc => h c (cutS_mem hc)
theorem subset_length {α : Type} [DecidableEq α] : ∀ {l ks : List α}, l.Nodup → (∀ x ∈ l, x ∈ ks) → l.length ≤ ks.length
  | [], _, _, _ => Nat.zero_le _
  | x :: l, ks, hn, h => by
    have hx : x ∈ ks := h x List.mem_cons_self
    have hn' := List.nodup_cons.mp hn
    have := subset_length (ks := ks.erase x) hn'.2 fun y hy => by
      have hne : y ≠ x := fun e => by subst e; exact hn'.1 hy
      exact (List.mem_erase_of_ne hne).mpr (h y (List.mem_cons_of_mem _ hy))
    rw [List.length_erase_of_mem hx] at this
    have : 0 < ks.length := List.length_pos_of_mem hx
    simp only [List.length_cons]
    omega
/-! ## rules for texts -/
/-! ## methods of lists -/
structure Bm (X : Cx) (o : Expr) (name : Str) (e : Expr) (es : List Expr) (apos cpos : Pos) : Prop where
  hbase : attributeBase o name X.env (eval o X.env) = eval o X.env
  hfew : ((backTo cpos (starEach (e :: es) X.env)).all (fun x => !x.1) && (backToKw cpos (keywordEach [] X.env)).all (fun x => x.1.isSome)
      && decide ((e :: es).length + ([] : List Keyword).length + (if ([] : List Keyword).isEmpty then 0 else 1) < 30)) = true
  hline : (apos.endLine == cpos.line) = true
  hs : starEach (e :: es) X.env = (false, eval e X.env) :: starEach es X.env
  hplain : (backTo cpos (starEach es X.env)).any (·.1) = false
theorem Gp.back {p : Addr} {F F' H F2 H2 : Hp} (g : Gp p F' H F2 H2) (s : Same F F') : Gp p F H F H2 := ⟨Same.refl _, s.trans (g.ff.trans g.fh), g.hh, g.at', fun _ e _ => e⟩
theorem Gr.back {F F' H F2 H2 : Hp} (g : Gr F' H F2 H2) (s : Same F F') : Gr F H F H2 := ⟨Same.refl _, s.trans (g.ff.trans g.fh), g.hh, fun _ e _ => e⟩
theorem Same.cell {F H : Hp} {l : Addr} {o : HO} (s : Same F H) (h : H l = some o) : Same (upd F l o) H := fun b x e => by
  by_cases hb : b = l
  · subst hb; rw [upd_same] at e; rw [h]; exact e
  · rw [upd_ne hb] at e; exact s _ _ e
end Kr
/-! layer Kr9 -/
namespace Kr
open PySem L2
/-! ## all that is new is told for the time being -/
def Fz (F0 H0 H : Hp) : Hp := fun b => if ((H0 b).isNone || (F0 b).isSome) = true then H b else none
/-- behind a start at F0, H0: all but the pool stands; so many drawings -/
structure HS (p : Addr) (F0 H0 H : Hp) (n : Nat) : Prop where
  s0 : Same F0 H0
  f0 : F0 p = none
  p0 : H0 p ≠ none
  hh : ∀ b o, b ≠ p → H0 b = some o → H b = some o
  P : Pool H p n
section
variable {p : Addr} {F0 H0 H H2 F2 : Hp} {n m : Nat} {q : Addr} {o : HO}
theorem Fz.new (h : H0 q = none) : Fz F0 H0 H q = H q := by
  unfold Fz
  rw [h]
  rfl
theorem Fz.le : Same (Fz F0 H0 H) H := fun b x e => by
  unfold Fz at e
  split at e
  · exact e
  · cases e
theorem HS.sF (s : HS p F0 H0 H n) : Same F0 H := fun b x e => s.hh b x (ne_of_none e s.f0) (s.s0 b x e)
theorem HS.sz (s : HS p F0 H0 H n) : Same F0 (Fz F0 H0 H) := fun b x e => by
  unfold Fz
  rw [e]
  show (if ((H0 b).isNone || true) = true then H b else none) = some x
  rw [Bool.or_true, if_pos rfl]
  exact s.sF b x e
theorem HS.gp (s : HS p F0 H0 H n) : Gp p F0 H0 (Fz F0 H0 H) H := ⟨s.sz, Fz.le, s.hh, fun _ => (by obtain ⟨o, ho⟩ := s.P.some; rw [ho]; exact fun z => nomatch z), fun b e hn => by
  unfold Fz
  rw [e]
  cases h : H0 b with
  | none => exact absurd h hn
  | some o => rfl⟩
theorem HS.step (s : HS p F0 H0 H n) (g : Gp p (Fz F0 H0 H) H F2 H2) (P : Pool H2 p m) : HS p F0 H0 H2 m := ⟨s.s0, s.f0, s.p0, fun b o hb e => g.hh b o hb (s.hh b o hb e), P⟩
theorem HS.gr (s : HS p F0 H0 H n) {F : Hp} (g : Gr F H F2 H2) : HS p F0 H0 H2 n := ⟨s.s0, s.f0, s.p0, fun b o hb e => g.hh b o (s.hh b o hb e), s.P.mono g.hh⟩
theorem HS.up (s : HS p F0 H0 H n) (h : n ≤ m) : HS p F0 H0 H m := ⟨s.s0, s.f0, s.p0, s.hh, s.P.mono (Same.refl _) h⟩
theorem HS.ne (s : HS p F0 H0 H n) (h : H0 q = none) : q ≠ p := fun z => by subst z; exact s.p0 h
theorem HS.ne' (s : HS p F0 H0 H n) (h : H q = none) : q ≠ p := fun z => by
  subst z
  obtain ⟨o, ho⟩ := s.P.some
  rw [ho] at h; cases h
theorem HS.free (s : HS p F0 H0 H n) (h : H q = none) : H0 q = none := by
  cases e : H0 q with
  | none => rfl
  | some o => rw [s.hh q o (s.ne' h) e] at h; cases h
theorem HS.mut (s : HS p F0 H0 H n) (h : H0 q = none) : HS p F0 H0 (upd H q o) n := ⟨s.s0, s.f0, s.p0, fun b u hb e => by rw [upd_ne (ne_of_none e h)]; exact s.hh b u hb e, by
  obtain ⟨c, k, t, h1, h2, h3, h4⟩ := s.P
  exact ⟨c, k, t, by rw [upd_ne (fun z => s.ne h z.symm)]; exact h1, h2, h3, h4⟩⟩
theorem HS.start (s : Same F0 H0) (f : F0 p = none) (P : Pool H0 p n) : HS p F0 H0 H0 n := ⟨s, f, (by obtain ⟨o, ho⟩ := P.some; rw [ho]; exact fun z => nomatch z), fun _ _ _ e => e, P⟩
/-- what stands at new addresses is told -/
theorem HS.ks (h : H0 q = none) {ks : List Str} (e : H q = some (.lst (ks.map V.str))) : Da (Fz F0 H0 H) (ksD ks) (.ref q) := ⟨q, _, rfl, by rw [Fz.new h]; exact e, daAll_strs ks⟩
end
/-! ## rooms that are being made -/
structure RC where
  t : Addr
  d : Addr
  k : Addr
  locks : List Str
  keys : List Str
structure RoomAt (H0 H : Hp) (r : RC) : Prop where
  t0 : H0 r.t = none
  d0 : H0 r.d = none
  k0 : H0 r.k = none
  ht : H r.t = some (.tup [.ref r.d, .ref r.k])
  hd : H r.d = some (.lst (r.locks.map V.str))
  hk : H r.k = some (.lst (r.keys.map V.str))
def RC.room (r : RC) : Room' := (r.locks, r.keys)
theorem RoomAt.da {F0 H0 H : Hp} {r : RC} (h : RoomAt H0 H r) : Da (Fz F0 H0 H) (roomD r.room) (.ref r.t) :=
  ⟨r.t, _, rfl, by rw [Fz.new h.t0]; exact h.ht, daAll_cons (HS.ks h.d0 h.hd) (daAll_cons (HS.ks h.k0 h.hk) daAll_nil)⟩
theorem RoomAt.keep {H0 H H2 : Hp} {r : RC} (h : RoomAt H0 H r) (k : ∀ b o, (b = r.t ∨ b = r.d ∨ b = r.k) → H b = some o → H2 b = some o) : RoomAt H0 H2 r :=
  ⟨h.t0, h.d0, h.k0, k _ _ (.inl rfl) h.ht, k _ _ (.inr (.inl rfl)) h.hd, k _ _ (.inr (.inr rfl)) h.hk⟩
theorem PxT.imp {p : Addr} {c : Nat} {X : Cx} {e : Expr} {σ : St} {F : Hp} {R R' : Bool → Prop} (h : PxT p c X e σ F R) (k : ∀ b, R b → R' b) : PxT p c X e σ F R' := fun n F1 H1 s1 s2 f P hn Q q => h n F1 H1 s1 s2 f P hn Q fun b F2 H2 g P2 hR => q b F2 H2 g P2 (k b hR)
section
variable {p : Addr} {F0 H0 H H2 F2 : Hp} {n m : Nat} {q : Addr} {o : HO}
theorem HS.keep (s : HS p F0 H0 H n) (g : Gp p (Fz F0 H0 H) H F2 H2) : Same F2 (Fz F0 H0 H2) := fun b x e => by
  have h2 := g.fh b x e
  have hb : ((H0 b).isNone || (F0 b).isSome) = true := by
    cases hh : ((H0 b).isNone || (F0 b).isSome) with
    | true => rfl
    | false =>
      have hz : Fz F0 H0 H b = none := by unfold Fz; rw [hh]; rfl
      have hne : H b ≠ none := by
        intro z
        have := s.free z
        rw [this] at hh
        simp at hh
      rw [g.new b hz hne] at e
      cases e
  unfold Fz
  rw [hb, if_pos rfl]
  exact h2
end
end Kr
/-! layer KrS -/
namespace Kr
open PySem PySem.Spec PyProof.Rows
/-! ## sets of texts -/
def txtOf (e : Int × Value) : Str := match e.2 with | .str x _ => x | _ => ⟨#[]⟩
def EntS (w : World) (e : Int × Value) : Prop := ∃ x tk, e.2 = Value.str x tk ∧ e.1 = hashStr w x
/-- the set at a: its texts, in the order of its rows -/
def StrSet (w : World) (h : Heap) (a : Addr) (L : List Str) : Prop := ∃ ob rows ep tb, h.get? a = some ob ∧ ob.ExactSet ∧ ob.data = .set rows ep tb ∧ (∀ e ∈ rows.toList, EntS w e) ∧ rows.toList.map txtOf = L ∧ L.Nodup ∧
  rows.size < scanBound ∧ tb.fits rows.size = true ∧ L2.Ris tb.place.toList ∧ (w.params.followText "set-order" = true ∨ tb.led = true)
section
variable {P : Program} {w : World} {A : Around} {E : Value → Shared → Prop} {s : Shared} {a : Addr} {L : List Str} {h h' : Heap}
theorem StrSet.at (R : StrSet w h a L) (k : ∀ o, h.get? a = some o → h'.get? a = some o) : StrSet w h' a L := by
  obtain ⟨ob, rows, ep, tb, h1, rest⟩ := R
  exact ⟨ob, rows, ep, tb, k ob h1, rest⟩
end
/-- of these texts, each once -/
def Met (xs L : List Str) : Prop := L.Nodup ∧ ∀ x, x ∈ L ↔ x ∈ xs
theorem Met.next {xs L L' : List Str} {i : Nat} {x : Str} (m : Met (xs.take i) L) (hx : xs[i]? = some x) (c : (x ∈ L ∧ L' = L) ∨ (x ∉ L ∧ L'.Perm (x :: L))) : Met (xs.take (i + 1)) L' := by
  rw [List.take_add_one, hx]
  rcases c with ⟨h, rfl⟩ | ⟨h, pm⟩
  · refine ⟨m.1, fun y => ?_⟩
    rw [m.2 y]
    simp only [Option.toList_some, List.mem_append, List.mem_singleton]
    exact ⟨.inl, fun z => z.elim id fun e => by subst e; exact (m.2 y).mp h⟩
  · refine ⟨pm.nodup_iff.mpr (List.nodup_cons.mpr ⟨h, m.1⟩), fun y => ?_⟩
    rw [pm.mem_iff, List.mem_cons, m.2 y]
    simp only [Option.toList_some, List.mem_append, List.mem_singleton]
    exact Or.comm
theorem Met.len {xs L : List Str} (m : Met xs L) : L.length ≤ xs.length := subset_length m.1 fun x h => (m.2 x).mp h
end Kr
/-! layer KrT -/
namespace Kr
open PySem L2
/-! ## set(xs), sorted of it -/
/-- the kinds of a list, sorted, each once -/
def kset (xs : List Str) : List Str := srt xs.eraseDups
theorem eraseDups_met : ∀ (n : Nat) (xs : List Str), xs.length ≤ n → Met xs xs.eraseDups
  | 0, [], _ => ⟨List.nodup_nil, fun x => by simp⟩
  | n + 1, [], _ => ⟨List.nodup_nil, fun x => by simp⟩
  | n + 1, x :: xs, h => by
    rw [List.eraseDups_cons]
    have hl : (xs.filter fun b => !b == x).length ≤ n := Nat.le_trans (List.length_filter_le _ _) (by simpa using h)
    obtain ⟨h1, h2⟩ := eraseDups_met n _ hl
    refine ⟨List.nodup_cons.mpr ⟨fun z => ?_, h1⟩, fun y => ?_⟩
    · have := (h2 x).mp z
      simp at this
    · rw [List.mem_cons, h2 y, List.mem_filter, List.mem_cons]
      by_cases e : y = x
      · simp [e]
      · simp [e]
theorem mem_kset {xs : List Str} {x : Str} : x ∈ kset xs ↔ x ∈ xs := mem_srt.trans ((eraseDups_met _ xs (Nat.le_refl _)).2 x)
theorem kset_nodup (xs : List Str) : (kset xs).Nodup := (srt_perm _).nodup_iff.mpr (eraseDups_met _ xs (Nat.le_refl _)).1
theorem kset_sorted (xs : List Str) : (kset xs).Pairwise (fun a b => leS a b = true) := srt_sorted _
end Kr
/-! layer KrU -/
namespace Kr
open PySem L2
/-! ## defs that tell something new of data -/
section
variable {X : Cx} {σ : St} {F H : Hp} {e o : Expr} {es : List Expr} {ds : List PyData} {k n : Nat} {f : Addr} {fd : FuncData} {ps : List Str} {pre : List PyData → Prop} {post : List PyData → PyData → Prop} {x : Str} {p pos apos cpos : Pos} {D : Ends} {d : PyData} {l : Addr} {xs : List V}
/-- what is new and one of R -/
def NE (X : Cx) (e : Expr) (σ : St) (F H : Hp) (R : PyData → Prop) : Prop := ∀ F1 H1, Gr F H F1 H1 → ∀ Q : VK, (∀ d v F2 H2, Gr F1 H1 F2 H2 → Da F2 d v → R d → (∀ a, v = .ref a → H1 a = none) → Q v H2) → WE X e σ H1 Q
theorem NE.go {R : PyData → Prop} (h : NE X e σ F H R) (s : Same F H) {Q : VK} (q : ∀ d v F2 H2, Gr F H F2 H2 → Da F2 d v → R d → (∀ a, v = .ref a → H a = none) → Q v H2) : WE X e σ H Q := h F H (.refl s) Q q
end
/-! ## what comes -/
inductive Comes (h : House) : Str → Prop
  | begin' {k : Str} : k ∈ h.1 → Comes h k
  | room {r : Room'} {k : Str} : r ∈ h.2 → (∀ l ∈ r.1, Comes h l) → k ∈ r.2 → Comes h k
def keysIn (rs : List Room') : Nat := (rs.map fun r => r.2.length).sum
structure Small (h : House) : Prop where
  good : GoodHouse h
  b : h.1.length ≤ 1000
  r : h.2.length ≤ 1000
  k : keysIn h.2 ≤ 1000
end Kr
/-! layer KrV -/
namespace Kr
open PySem L2
/-! ## ints in lists -/
theorem ints_unique : ∀ {xs ys : List Int}, xs.Perm ys → xs.Pairwise (· ≤ ·) → ys.Pairwise (· ≤ ·) → xs = ys
  | [], ys, p, _, _ => (List.nil_perm.mp p).symm
  | x :: xs, [], p, _, _ => by simpa using p.length_eq
  | x :: xs, y :: ys, p, h1, h2 => by
    have e : x = y := by
      have hx : x ∈ y :: ys := p.mem_iff.mp List.mem_cons_self
      have hy : y ∈ x :: xs := p.mem_iff.mpr List.mem_cons_self
      rcases List.mem_cons.mp hx with e | hx
      · exact e
      rcases List.mem_cons.mp hy with e | hy
      · exact e.symm
      exact Int.le_antisymm (List.rel_of_pairwise_cons h1 hy) (List.rel_of_pairwise_cons h2 hx)
    subst e
    rw [ints_unique ((List.perm_cons x).mp p) h1.of_cons h2.of_cons]
def srtI (xs : List Int) : List Int := xs.mergeSort fun a b => decide (a ≤ b)
theorem srtI_perm (xs : List Int) : (srtI xs).Perm xs := List.mergeSort_perm _ _
theorem srtI_sorted (xs : List Int) : (srtI xs).Pairwise (· ≤ ·) := by
  have := List.pairwise_mergeSort (le := fun a b : Int => decide (a ≤ b)) (fun a b c h1 h2 => by simp only [decide_eq_true_eq] at *; omega) (fun a b => by simp only [Bool.or_eq_true, decide_eq_true_eq]; omega) xs
  exact this.imp fun h => of_decide_eq_true h
/-! ## a sign, some times -/
def repS (x : Str) (n : Int) : Str := if n = 1 then x else ⟨(List.replicate n.toNat x.cps).foldl (· ++ ·) #[]⟩
theorem op_repS {X : Cx} : OpR X (binaryOp .Mult) (fun x y H Q => ∃ z n, x = V.str z ∧ y = V.int n ∧ 1 ≤ n ∧ n ≤ 1000 ∧ z.length = 1 ∧ Q (.str (repS z n)) H) := by
  intro pins s σ H x y v u Q I rx ry h
  obtain ⟨z, n, rfl, rfl, h1, h2, hz, q⟩ := h
  obtain ⟨t, rfl⟩ := rx
  obtain ⟨t', rfl⟩ := ry
  have hl : PySem.Builtin.Str.tooLong (z.length * n.toNat) = false := by
    rw [hz, Nat.one_mul]
    unfold PySem.Builtin.Str.tooLong
    simp only [decide_eq_false_iff_not]
    have : sizeLine = 16777216 := by decide
    omega
  refine PySem.P.mul_str (by rw [decide_eq_false (by omega), decide_eq_false (by omega)]; rfl) (fun _ _ => by
    rw [hz]
    have : (1 : Int) ≤ (2 ^ 63 - 1) / n := Int.le_ediv_of_mul_le (by omega) (by omega)
    show ¬ ((1 : Nat) : Int) > _
    omega) (fun _ _ => hl) ?_
  rw [if_neg (by omega)]
  unfold repS at q
  by_cases hn : n = 1
  · subst hn
    rw [if_pos rfl] at q
    rw [if_pos (by rfl)]
    exact ⟨.str z, H, I, ⟨_, rfl⟩, q⟩
  · rw [if_neg hn] at q
    rw [if_neg (by simp [hn, hz])]
    exact ⟨PySem.fits_reps hl, .str _, H, I.tok _, ⟨_, rfl⟩, q⟩
/-! ## the come of a house, as the law takes it -/
structure LC (h : House) (c : List Str) (R : List Int) : Prop where
  hc : ∀ x ∈ c, Comes h x
  hb : ∀ x ∈ h.1, x ∈ c
  nd : c.Nodup
  st : c.Pairwise (fun a b => leS a b = true)
  rn : R.Nodup
  rr : ∀ i ∈ R, ∃ j : Nat, i = j ∧ j < h.2.length
  rk : ∀ j : Nat, (j : Int) ∈ R → ∀ r, h.2[j]? = some r → (∀ l ∈ r.1, l ∈ c) ∧ ∀ k ∈ r.2, k ∈ c
theorem LC.start (h : House) : LC h (kset h.1) [] := ⟨fun x hx => .begin' (mem_kset.mp hx), fun x hx => mem_kset.mpr hx, kset_nodup _, kset_sorted _, List.nodup_nil, (fun _ h => nomatch h), (fun _ h => nomatch h)⟩
theorem LC.step {h : House} {c : List Str} {R : List Int} {j : Nat} {r : Room'} (L : LC h c R) (hr : h.2[j]? = some r) (hj : (j : Int) ∉ R) (hl : ∀ l ∈ r.1, l ∈ c) : LC h (kset (c ++ r.2)) (R ++ [(j : Int)]) := by
  have sub : ∀ x ∈ c, x ∈ kset (c ++ r.2) := fun x hx => mem_kset.mpr (List.mem_append_left _ hx)
  refine ⟨fun x hx => ?_, fun x hx => sub x (L.hb x hx), kset_nodup _, kset_sorted _, ?_, fun i hi => ?_, fun k hk s hs => ?_⟩
  · rcases List.mem_append.mp (mem_kset.mp hx) with hx | hx
    · exact L.hc x hx
    · exact .room (List.mem_of_getElem? hr) (fun l hl' => L.hc l (hl l hl')) hx
  · exact List.nodup_append.mpr ⟨L.rn, List.nodup_cons.mpr ⟨(fun h => nomatch h), List.nodup_nil⟩, fun a ha b hb e => by
      rw [List.mem_singleton] at hb
      subst hb; subst e
      exact hj ha⟩
  · rcases List.mem_append.mp hi with hi | hi
    · exact L.rr i hi
    · rw [List.mem_singleton] at hi
      exact ⟨j, hi, (List.getElem?_eq_some_iff.mp hr).1⟩
  · rcases List.mem_append.mp hk with hk | hk
    · obtain ⟨h1, h2⟩ := L.rk k hk s hs
      exact ⟨fun l hl => sub l (h1 l hl), fun l hl => sub l (h2 l hl)⟩
    · rw [List.mem_singleton] at hk
      have : k = j := by omega
      subst this
      rw [hr] at hs
      injection hs with hs
      subst hs
      exact ⟨fun l hl' => sub l (hl l hl'), fun l hl' => mem_kset.mpr (List.mem_append_right _ hl')⟩
theorem LC.len {h : House} {c : List Str} {R : List Int} (L : LC h c R) : R.length ≤ h.2.length := by
  have := subset_length (ks := (List.range h.2.length).map fun j : Nat => (j : Int)) L.rn fun i hi => by
    obtain ⟨j, rfl, hj⟩ := L.rr i hi
    exact List.mem_map.mpr ⟨j, List.mem_range.mpr hj, rfl⟩
  simpa using this
theorem one_le {r : Room'} : ∀ {rs : List Room'}, r ∈ rs → r.2.length ≤ keysIn rs
  | x :: rs, h => by
    have e : keysIn (x :: rs) = x.2.length + keysIn rs := by unfold keysIn; rw [List.map_cons, List.sum_cons]
    rcases List.mem_cons.mp h with rfl | h
    · omega
    · have := one_le h
      omega
end Kr
/-! layer KrW -/
namespace Kr
open PySem L2
/-! ## y = [.. for .. in range(e)], by a word of the turn and the heap -/
/-! ## the chain's names -/
def nmK (k : Nat) : Str := repS ⟨#[letters.cps.toList.getD (k % 26) 0]⟩ (1 + (k : Int) / 26)
def nms (n : Nat) : List Str := (List.range n).map nmK
theorem srt_srt (xs : List Str) : srt (srt xs) = srt xs := sorted_unique (srt_perm _) (srt_sorted _) (srt_sorted _)
end Kr
/-! layer KrX -/
namespace Kr
open PySem L2
/-! ## the law's own call -/
def spLaw (K : PySem.W.Frag) : Sp := fun vs H Q _ => ∃ (a : Addr) (ns : List Int), vs = [.ref a] ∧ SqL K H a (ns.map V.int) ∧ ns.length ≤ 63 ∧ ∀ H', Q (.bl true) H'
end Kr
/-! layer KrY -/
/-! layer KrZ -/
namespace Kr
open PySem L2
theorem none_of {α : Type} (xs : List α) (h : α → PyData) : PyData.list ((xs.filter fun _ => false).map h) = .list [] := by
  rw [List.filter_eq_nil_iff.mpr (fun _ _ => Bool.false_ne_true)]
  rfl
end Kr
/-! layer KrB -/
/-! layer KrC -/
namespace Kr
open PySem L2
structure Mid (h : House) : Prop where
  good : GoodHouse h
  b : h.1.length ≤ 200
  r : h.2.length ≤ 100
  k : keysIn h.2 ≤ 200
theorem Mid.each {h : House} (m : Mid h) {r : Room'} (hr : r ∈ h.2) : r.2.length ≤ 200 := Nat.le_trans (one_le hr) m.k
theorem Mid.begin' {h : House} (m : Mid h) : Small (h.1, []) := by
  have h1 := m.b
  exact ⟨⟨m.good.keys, (fun _ h => nomatch h), by show h.1.length ≤ _; omega, Nat.zero_le _, (fun _ h => nomatch h)⟩, by show h.1.length ≤ _; omega, Nat.zero_le _, Nat.zero_le _⟩
theorem Mid.more {h : House} (m : Mid h) {r : Room'} (hr : r ∈ h.2) : Small (h.1 ++ r.1.take 1, h.2) := by
  have h1 := m.b; have h2 := m.r; have h3 := m.k
  have len : (h.1 ++ r.1.take 1).length ≤ 300 := by rw [List.length_append, List.length_take]; omega
  refine ⟨⟨fun k hk => ?_, m.good.rooms, by show (h.1 ++ r.1.take 1).length ≤ _; omega, m.good.many, m.good.each⟩, by show (h.1 ++ r.1.take 1).length ≤ _; omega, by show h.2.length ≤ _; omega, by show keysIn h.2 ≤ _; omega⟩
  rcases List.mem_append.mp hk with h | h
  · exact m.good.keys k h
  · exact (m.good.rooms r hr).1 k (List.mem_of_mem_take h)
theorem Mid.locks {h : House} (m : Mid h) {r : Room'} (hr : r ∈ h.2) : r.1.length ≤ 4000 := by
  have := (m.good.rooms r hr).2.2.2.1
  omega
end Kr
/-! layer KrD -/
namespace Kr
open PySem L2
/-! ## dicts whose keys are texts or ints -/
theorem VE.f {X : Cx} {e : Expr} {σ : St} {F F1 : Hp} {v : V} (h : VE X e σ F F v) (s : Same F F1) : VE X e σ F1 F1 v := h.mono ⟨s, Same.refl _, s, fun _ e n => absurd e n⟩
section
variable {X : Cx} {σ : St} {F H : Hp} {o e f value : Expr} {a : Addr} {kvs : List (Key × V)} {k : Key} {pos pos' apos cpos tpos : Pos} {D : Ends} {d dv : PyData} {i j n : Int}
/-- a key as data -/
def keyD : Key → PyData
  | .inl i => .int i
  | .inr x => .str x
end
/-! ## hands: how many keys of each kind -/
structure HandOf (kvs : List (Key × V)) (ks : List Str) (cnt : Str → Nat) : Prop where
  keys : kvs.map (·.1) = ks.map Sum.inr
  nd : ks.Nodup
  val : ∀ x, valV kvs (.inr x) = if x ∈ ks then some (.int (cnt x)) else none
  zero : ∀ x, x ∉ ks → cnt x = 0
theorem HandOf.nil : HandOf [] [] fun _ => 0 := ⟨rfl, List.nodup_nil, fun _ => rfl, fun _ _ => rfl⟩
theorem HandOf.get {kvs : List (Key × V)} {ks : List Str} {cnt : Str → Nat} (h : HandOf kvs ks cnt) (x : Str) : (valV kvs (.inr x)).getD (.int 0) = .int (cnt x : Int) := by
  rw [h.val x]
  split
  · rfl
  · rename_i hn
    rw [h.zero x hn]
    rfl
theorem HandOf.len {kvs : List (Key × V)} {ks : List Str} {cnt : Str → Nat} (h : HandOf kvs ks cnt) : kvs.length = ks.length := by
  have := congrArg List.length h.keys
  rwa [List.length_map, List.length_map] at this
theorem valV_none_of {kvs : List (Key × V)} {ks : List Str} {cnt : Str → Nat} (h : HandOf kvs ks cnt) {x : Str} (hx : x ∉ ks) : valV kvs (.inr x) = none := by
  rw [h.val x, if_neg hx]
theorem putK_keys {kvs : List (Key × V)} {k : Key} {v : V} (h : (valV kvs k).isSome = true) : (putK kvs k v).map (·.1) = kvs.map (·.1) := by
  unfold putK
  rw [valV_any, h, if_pos rfl, List.map_map]
  refine List.map_congr_left fun kv _ => ?_
  show (if kv.1 = k then (kv.1, v) else kv).1 = kv.1
  split <;> rfl
/-- one kind's number is set -/
theorem HandOf.put {kvs : List (Key × V)} {ks : List Str} {cnt : Str → Nat} (h : HandOf kvs ks cnt) (x : Str) (n : Nat) : HandOf (putK kvs (.inr x) (.int (n : Int))) (if x ∈ ks then ks else ks ++ [x]) (fun y => if y = x then n else cnt y) := by
  refine ⟨?_, ?_, fun y => ?_, fun y hy => ?_⟩
  · split
    · rename_i hx
      rw [putK_keys (by rw [h.val x, if_pos hx]; rfl)]
      exact h.keys
    · rename_i hx
      rw [putK_new _ (valV_none_of h hx), List.map_append, h.keys, List.map_append]
      rfl
  · split
    · exact h.nd
    · rename_i hx
      exact List.nodup_append.mpr ⟨h.nd, List.nodup_cons.mpr ⟨(fun h => nomatch h), List.nodup_nil⟩, fun a ha b hb e => by
        rw [List.mem_singleton] at hb
        subst hb; subst e
        exact hx ha⟩
  · rw [valV_put]
    by_cases e : y = x
    · subst e
      rw [if_pos rfl, if_pos (by split <;> simp_all), if_pos rfl]
    · rw [if_neg (fun z => e (Sum.inr.inj z)), h.val y, if_neg e]
      have : (y ∈ (if x ∈ ks then ks else ks ++ [x])) ↔ y ∈ ks := by
        split
        · exact Iff.rfl
        · rw [List.mem_append, List.mem_singleton]
          exact ⟨fun z => z.resolve_right e, .inl⟩
      simp only [this]
  · have hyx : y ≠ x := fun e => by
      subst e
      apply hy
      split <;> simp_all
    rw [if_neg hyx]
    refine h.zero y fun z => hy ?_
    split
    · exact z
    · exact List.mem_append_left _ z
end Kr
/-! layer KrE -/
/-! layer KrF -/
/-! layer KrG -/
namespace Kr
open PySem L2
/-! ## a hand that counts a list -/
/-- the keys in hand behind a room -/
def behindL (L : List Str) (r : Room') : List Str := r.1.foldl List.erase L ++ r.2
def stepL (h : House) (L : List Str) (i : Nat) : List Str := match h.2[i]? with | some r => behindL L r | none => L
def walkL (h : House) (order : List Nat) : List Str := order.foldl (stepL h) h.1
end Kr
/-! layer KrH -/
namespace Kr
open PySem L2
/-! ## orders gone -/
/-- an order that can be gone -/
structure CanGo (h : House) (order : List Nat) : Prop where
  nd : order.Nodup
  step : ∀ i k, order[i]? = some k → ∃ r : Room', h.2[k]? = some r ∧ (r.1.all fun l => decide (r.1.count l ≤ (walkL h (order.take i)).count l)) = true
end Kr
/-! layer KrI -/
/-! layer A1 -/
namespace Kr
open PySem L2
/-! ## trees of our own: each node at its address -/
inductive Kd where
  | lst
  | tup
  | dct (ks : List Key)
  | dctT (ks : List (List Key))
  | obj (C dx : Addr) (fs : List Str)
inductive Tr where
  | d (x : PyData)
  | nd (k : Kd) (a : Addr) (xs : List Tr)
def Kd.ho : Kd → List V → HO
  | .lst, vs => .lst vs
  | .tup, vs => .tup vs
  | .dct ks, vs => .dK (ks.zip vs)
  | .dctT ks, vs => .dT (ks.zip vs)
  | .obj C dx fs, vs => .ins C dx (fs.zip vs)
def Kd.more : Kd → List Addr
  | .obj _ dx _ => [dx]
  | _ => []
def Kd.side (H : Hp) (a : Addr) (n : Nat) : Kd → Prop
  | .obj _ dx fs => H dx = some (.own a) ∧ fs.length = n
  | .dct ks => ks.length = n
  | .dctT ks => ks.length = n
  | _ => True
def Tr.root : Tr → Option Addr
  | .d _ => none
  | .nd _ a _ => some a
mutual
def Tr.addrs : Tr → List Addr
  | .d _ => []
  | .nd k a xs => a :: (k.more ++ Tr.addrsL xs)
def Tr.addrsL : List Tr → List Addr
  | [] => []
  | t :: ts => t.addrs ++ Tr.addrsL ts
end
mutual
def TrOk (F H : Hp) : Tr → V → Prop
  | .d x, v => Da F x v
  | .nd k a xs, v => v = .ref a ∧ ∃ vs, H a = some (k.ho vs) ∧ k.side H a xs.length ∧ TrAll F H xs vs
def TrAll (F H : Hp) : List Tr → List V → Prop
  | [], vs => vs = []
  | t :: ts, vs => ∃ v r, vs = v :: r ∧ TrOk F H t v ∧ TrAll F H ts r
end
theorem Kd.side_mono {F H : Hp} {k : Kd} {a : Addr} {n : Nat} {H2 : Hp} (h : k.side H a n) (e : ∀ q ∈ k.more, ∀ o, H q = some o → H2 q = some o) : k.side H2 a n := by
  cases k with
  | obj C dx fs => exact ⟨e dx (List.mem_singleton.mpr rfl) _ h.1, h.2⟩
  | _ => exact h
mutual
theorem TrOk.mono {F H F2 H2 : Hp} (s : Same F F2) : ∀ {t : Tr} {v : V}, TrOk F H t v → (∀ q ∈ t.addrs, ∀ o, H q = some o → H2 q = some o) → TrOk F2 H2 t v
  | .d x, v, h, _ => Da.mono s h
  | .nd k a xs, v, h, e => by
    obtain ⟨h0, vs, h1, h2, h3⟩ := (show v = .ref a ∧ ∃ vs, H a = some (k.ho vs) ∧ k.side H a xs.length ∧ TrAll F H xs vs from h)
    have e' : ∀ q ∈ a :: (k.more ++ Tr.addrsL xs), ∀ o, H q = some o → H2 q = some o := e
    exact (show v = .ref a ∧ ∃ vs, H2 a = some (k.ho vs) ∧ k.side H2 a xs.length ∧ TrAll F2 H2 xs vs from ⟨h0, vs, e' a (List.mem_cons_self ..) _ h1, Kd.side_mono (F := F) h2 fun q hq => e' q (List.mem_cons_of_mem _ (List.mem_append_left _ hq)), TrAll.mono s h3 fun q hq => e' q (List.mem_cons_of_mem _ (List.mem_append_right _ hq))⟩)
theorem TrAll.mono {F H F2 H2 : Hp} (s : Same F F2) : ∀ {ts : List Tr} {vs : List V}, TrAll F H ts vs → (∀ q ∈ Tr.addrsL ts, ∀ o, H q = some o → H2 q = some o) → TrAll F2 H2 ts vs
  | [], _, h, _ => h
  | t :: ts, vs, h, e => by
    obtain ⟨v, r, h0, h1, h2⟩ := (show ∃ v r, vs = v :: r ∧ TrOk F H t v ∧ TrAll F H ts r from h)
    have e' : ∀ q ∈ t.addrs ++ Tr.addrsL ts, ∀ o, H q = some o → H2 q = some o := e
    exact (show ∃ v r, vs = v :: r ∧ TrOk F2 H2 t v ∧ TrAll F2 H2 ts r from ⟨v, r, h0, h1.mono s fun q hq => e' q (List.mem_append_left _ hq), TrAll.mono s h2 fun q hq => e' q (List.mem_append_right _ hq)⟩)
end
/-! ## abstract values, cells, states -/
inductive AVal where
  | d (x : PyData)
  | r (n : Nat)
  | s (K : PySem.W.Frag) (ns : List Int)
  /-- the node at p of the tree n, at a path there -/
  | a (p : Addr) (n : Nat) (pt : List Nat)
inductive Cell where
  | lst (ds : List PyData)
  | dK (kvs : List (Key × PyData))
  | pool (n : Nat)
  | fz (x : PyData)
  | gone
  | nl (xs : List AVal)
  | nt (xs : List AVal)
  | nd (kvs : List (Key × AVal))
  | dl (od : Obj) (es : List (Key × V)) (kvs : List (Key × PyData))
  | tr (t : Tr)
def Cell.live : Cell → Bool
  | .fz _ => false
  | .gone => false
  | .tr _ => false
  | _ => true
def Cell.ads : Cell → List Addr
  | .tr t => t.addrs
  | _ => []
structure AS where
  sl : List (Option AVal)
  cs : List Cell
def VOk (ad : List Addr) (F : Hp) : AVal → V → Prop
  | .d x, v => Da F x v
  | .r n, v => ∃ a, ad[n]? = some a ∧ v = .ref a
  | .s K ns, v => ∃ a, v = .ref a ∧ SqL K F a (ns.map V.int)
  | .a p _ _, v => v = .ref p
def KvOk (F : Hp) : List (Key × PyData) → List (Key × V) → Prop := Paired fun p q => p.1 = q.1 ∧ Da F p.2 q.2
def KrOk (ad : List Addr) (F : Hp) : List (Key × AVal) → List (Key × V) → Prop := Paired fun p q => p.1 = q.1 ∧ VOk ad F p.2 q.2
def COk (ad : List Addr) (F H : Hp) (a : Addr) : Cell → Prop
  | .lst ds => ∃ vs, H a = some (.lst vs) ∧ DaAll F ds vs
  | .dK kvs => ∃ es, H a = some (.dK es) ∧ KvOk F kvs es
  | .pool n => Pool H a n
  | .fz x => Da F x (.ref a)
  | .gone => True
  | .nl xs => ∃ vs, H a = some (.lst vs) ∧ Paired (VOk ad F) xs vs
  | .nt xs => ∃ vs, H a = some (.tup vs) ∧ Paired (VOk ad F) xs vs
  | .nd kvs => ∃ es, H a = some (.dK es) ∧ KrOk ad F kvs es
  | .dl od es kvs => H a = some (.frz od (.dK es)) ∧ KvOk F kvs es
  | .tr t => t.root = some a ∧ TrOk F H t (.ref a)
/-- where a def began: the cells handed in, both heaps -/
structure Bs where
  S : List Addr
  F0 : Hp
  H0 : Hp
  T : List Addr
/-- the addresses of our trees stand apart -/
structure Inn (B : Bs) (ad : List Addr) (F H : Hp) (cs : List Cell) : Prop where
  nd : (cs.flatMap Cell.ads).Nodup
  off : ∀ q ∈ cs.flatMap Cell.ads, ∀ i : Nat, ad[i]? = some q → cs[i]? = some Cell.gone ∨ ∃ t : Tr, cs[i]? = some (Cell.tr t) ∧ t.root = some q
  fr : ∀ q ∈ cs.flatMap Cell.ads, F q = none ∧ H q ≠ none
  own : ∀ q ∈ cs.flatMap Cell.ads, q ∈ B.S ∨ q ∈ B.T ∨ B.H0 q = none
  old : ∀ b ∈ B.T, B.H0 b ≠ none
structure Rl (B : Bs) (ad : List Addr) (F H : Hp) (a : AS) (σ : St) : Prop where
  ff : Same B.F0 F
  fh : Same F H
  hh : ∀ b o, b ∉ B.S → b ∉ B.T → B.H0 b = some o → H b = some o
  al : ∀ b, b ∈ B.S ∨ b ∈ B.T → H b ≠ none
  new : ∀ b, B.F0 b = none → B.H0 b ≠ none → F b = none
  pre : ∃ ad', ad = B.S ++ ad' ∧ ∀ b ∈ ad', B.H0 b = none
  nd : ad.Nodup
  len : ad.length = a.cs.length
  cel : ∀ (i : Nat) (p : Addr) (c : Cell), ad[i]? = some p → a.cs[i]? = some c → H p ≠ none ∧ (c.live = true → F p = none) ∧ COk ad F H p c
  sln : a.sl.length = σ.length
  slt : ∀ (k : Nat) (x : AVal), a.sl[k]? = some (some x) → ∃ v, σ[k]? = some (some v) ∧ VOk ad F x v
  inn : Inn B ad F H a.cs
theorem ne_none {H : Hp} {p : Addr} {o : HO} (h : H p = some o) : H p ≠ none := by rw [h]; exact fun z => nomatch z
theorem some_of_ne {H : Hp} {p : Addr} (h : H p ≠ none) : ∃ o, H p = some o := by
  cases e : H p with
  | none => exact absurd e h
  | some o => exact ⟨o, rfl⟩
theorem Same.ne {H H2 : Hp} {p : Addr} (s : Same H H2) (h : H p ≠ none) : H2 p ≠ none := fun z => h (s.free z)
theorem Paired.imp {α β : Type} {R S : α → β → Prop} : ∀ {xs : List α} {ys : List β}, Paired R xs ys → (∀ x y, R x y → S x y) → Paired S xs ys
  | _, _, .nil, _ => .nil
  | _, _, .cons h t, k => .cons (k _ _ h) (Paired.imp t k)
theorem ext_get {ad ad2 : List Addr} (e : ∃ m, ad2 = ad ++ m) {n : Nat} {a : Addr} (h : ad[n]? = some a) : ad2[n]? = some a := by
  obtain ⟨m, rfl⟩ := e
  rw [List.getElem?_append_left (List.getElem?_eq_some_iff.mp h).1]
  exact h
abbrev Ext (ad ad2 : List Addr) : Prop := ∃ m, ad2 = ad ++ m
theorem Ext.refl (ad : List Addr) : Ext ad ad := ⟨[], by simp⟩
theorem Ext.trans {a b c : List Addr} (h : Ext a b) (k : Ext b c) : Ext a c := by
  obtain ⟨m, rfl⟩ := h
  obtain ⟨n, rfl⟩ := k
  exact ⟨m ++ n, by simp⟩
theorem VOk.mono {ad ad2 : List Addr} {F F2 : Hp} {x : AVal} {v : V} (h : VOk ad F x v) (e : Ext ad ad2) (s : Same F F2) : VOk ad2 F2 x v := by
  cases x with
  | d x => exact Da.mono s h
  | r n => obtain ⟨a, h1, h2⟩ := h; exact ⟨a, ext_get e h1, h2⟩
  | s K ns => obtain ⟨a, h1, h2⟩ := h; exact ⟨a, h1, s.seq h2⟩
  | a p n pt => exact h
theorem COk.mono {ad ad2 : List Addr} {F F2 H H2 : Hp} {p : Addr} {c : Cell} (h : COk ad F H p c) (e : Ext ad ad2) (s : Same F F2) (k : ∀ o, H p = some o → H2 p = some o) (kt : ∀ q ∈ c.ads, ∀ o, H q = some o → H2 q = some o := by exact fun _ h => nomatch h) : COk ad2 F2 H2 p c := by
  cases c with
  | lst ds => obtain ⟨vs, h1, h2⟩ := h; exact ⟨vs, k _ h1, h2.mono s⟩
  | dK kvs => obtain ⟨vs, h1, h2⟩ := h; exact ⟨vs, k _ h1, Paired.imp h2 fun _ _ h => ⟨h.1, h.2.mono s⟩⟩
  | pool n => obtain ⟨c, m, t, h1, h2⟩ := h; exact ⟨c, m, t, k _ h1, h2⟩
  | fz x => exact Da.mono s h
  | gone => trivial
  | nl xs => obtain ⟨vs, h1, h2⟩ := h; exact ⟨vs, k _ h1, Paired.imp h2 fun _ _ h => h.mono e s⟩
  | nt xs => obtain ⟨vs, h1, h2⟩ := h; exact ⟨vs, k _ h1, Paired.imp h2 fun _ _ h => h.mono e s⟩
  | nd kvs => obtain ⟨vs, h1, h2⟩ := h; exact ⟨vs, k _ h1, Paired.imp h2 fun _ _ h => ⟨h.1, h.2.mono e s⟩⟩
  | dl od es kvs => obtain ⟨h1, h2⟩ := h; exact ⟨k _ h1, Paired.imp h2 fun _ _ h => ⟨h.1, h.2.mono s⟩⟩
  | tr t => obtain ⟨h1, h2⟩ := h; exact ⟨h1, h2.mono s kt⟩
theorem mem_ads {cs : List Cell} {i : Nat} {c : Cell} {q : Addr} (hc : cs[i]? = some c) (hq : q ∈ c.ads) : q ∈ cs.flatMap Cell.ads := List.mem_flatMap.mpr ⟨c, List.mem_of_getElem? hc, hq⟩
section
variable {B : Bs} {ad : List Addr} {F H F2 H2 : Hp} {a : AS} {σ : St} {p : Addr} {o : HO} {c : Cell} {i k : Nat} {x : AVal} {v : V}
theorem Rl.there {b : Addr} (r : Rl B ad F H a σ) (n : B.H0 b ≠ none) : H b ≠ none := by
  by_cases hb : b ∈ B.S ∨ b ∈ B.T
  · exact r.al b hb
  · obtain ⟨o, ho⟩ := some_of_ne n
    exact ne_none (r.hh b o (fun z => hb (.inl z)) (fun z => hb (.inr z)) ho)
theorem Inn.gr {cs : List Cell} (q : Inn B ad F H cs) (g : Gr F H F2 H2) : Inn B ad F2 H2 cs :=
  ⟨q.nd, q.off, fun x hx => ⟨g.new x (q.fr x hx).1 (q.fr x hx).2, Same.ne g.hh (q.fr x hx).2⟩, q.own, q.old⟩
theorem Rl.gr (r : Rl B ad F H a σ) (g : Gr F H F2 H2) : Rl B ad F2 H2 a σ where
  ff := r.ff.trans g.ff
  fh := g.fh
  hh := fun b o hb ht e => g.hh _ _ (r.hh b o hb ht e)
  al := fun b hb => Same.ne g.hh (r.al b hb)
  new := fun b e n => g.new b (r.new b e n) (r.there n)
  pre := r.pre
  nd := r.nd
  len := r.len
  cel := fun i p c h1 h2 => by
    obtain ⟨n, l, ok⟩ := r.cel i p c h1 h2
    exact ⟨Same.ne g.hh n, fun q => g.new p (l q) n, ok.mono (Ext.refl _) g.ff (fun o e => g.hh _ _ e) fun q _ o e => g.hh _ _ e⟩
  sln := r.sln
  slt := fun k x h => by
    obtain ⟨v, h1, h2⟩ := r.slt k x h
    exact ⟨v, h1, h2.mono (Ext.refl _) g.ff⟩
  inn := r.inn.gr g
theorem Rl.mem (r : Rl B ad F H a σ) (h : p ∈ ad) : H p ≠ none := by
  obtain ⟨i, hi⟩ := List.mem_iff_getElem?.mp h
  have : i < a.cs.length := by rw [← r.len]; exact (List.getElem?_eq_some_iff.mp hi).1
  exact (r.cel i p _ hi (List.getElem?_eq_getElem this)).1
theorem Rl.fresh (r : Rl B ad F H a σ) (h : H p = none) : B.H0 p = none ∧ p ∉ B.S ∧ p ∉ ad := by
  have h1 : p ∉ B.S := fun z => r.al p (.inl z) h
  have h2 : p ∉ B.T := fun z => r.al p (.inr z) h
  refine ⟨?_, h1, fun z => r.mem z h⟩
  cases e : B.H0 p with
  | none => rfl
  | some o => rw [r.hh p o h1 h2 e] at h; cases h
theorem Rl.offT (r : Rl B ad F H a σ) (h : H p = none) : p ∉ B.T := fun z => r.al p (.inr z) h
theorem Rl.offI {q : Addr} (r : Rl B ad F H a σ) (h : H p = none) (hq : q ∈ a.cs.flatMap Cell.ads) : q ≠ p := fun z => (r.inn.fr q hq).2 (z ▸ h)
theorem flat_snoc {cs : List Cell} {c : Cell} (h : c.ads = []) : (cs ++ [c]).flatMap Cell.ads = cs.flatMap Cell.ads := by simp [h]
theorem Inn.push {cs : List Cell} (r : Inn B ad F H cs) (hp : H p = none) (hl : ad.length = cs.length) (hc : c.ads = []) : Inn B (ad ++ [p]) F (upd H p o) (cs ++ [c]) := by
  refine ⟨by rw [flat_snoc hc]; exact r.nd, fun q hq i hi => ?_, fun q hq => ?_, fun q hq => r.own q (by rw [flat_snoc hc] at hq; exact hq), r.old⟩
  · rw [flat_snoc hc] at hq
    have hqp : q ≠ p := fun z => (r.fr q hq).2 (z ▸ hp)
    by_cases hi2 : i < ad.length
    · rw [List.getElem?_append_left hi2] at hi
      rw [List.getElem?_append_left (by omega)]
      exact r.off q hq i hi
    · rw [List.getElem?_append_right (by omega)] at hi
      have : q = p := by
        have := List.mem_of_getElem? hi
        simpa using this
      exact absurd this hqp
  · rw [flat_snoc hc] at hq
    have hqp : q ≠ p := fun z => (r.fr q hq).2 (z ▸ hp)
    exact ⟨(r.fr q hq).1, by rw [upd_ne hqp]; exact (r.fr q hq).2⟩
theorem flat_set {cs : List Cell} {i : Nat} {c : Cell} (h : c.ads = []) : ((cs.set i c).flatMap Cell.ads).Sublist (cs.flatMap Cell.ads) := by
  induction cs generalizing i with
  | nil => simp
  | cons d cs ih =>
    cases i with
    | zero => simp [h]
    | succ i => simp only [List.set_cons_succ, List.flatMap_cons]; exact List.Sublist.append (List.Sublist.refl _) ih
theorem Inn.set {cs : List Cell} {H2 : Hp} {c0 : Cell} (r : Inn B ad F H cs) (hi : ad[i]? = some p) (h0 : cs[i]? = some c0) (hl : c0.live = true) (hc : c.ads = []) (hF : ∀ q, q ≠ p → F q = none → F2 q = none) (hH : ∀ q, q ≠ p → H q ≠ none → H2 q ≠ none) : Inn B ad F2 H2 (cs.set i c) := by
  have sub : ∀ q, q ∈ (cs.set i c).flatMap Cell.ads → q ∈ cs.flatMap Cell.ads := fun q hq => (flat_set hc).subset hq
  have ne : ∀ q, q ∈ (cs.set i c).flatMap Cell.ads → q ≠ p := fun q hq z => by
    subst z
    rcases r.off q (sub q hq) i hi with e | ⟨t, e, _⟩
    · rw [h0] at e; cases e; cases hl
    · rw [h0] at e; cases e; cases hl
  refine ⟨r.nd.sublist (flat_set hc), fun q hq j hj => ?_, fun q hq => ⟨hF q (ne q hq) (r.fr q (sub q hq)).1, hH q (ne q hq) (r.fr q (sub q hq)).2⟩, fun q hq => r.own q (sub q hq), r.old⟩
  have hji : j ≠ i := fun z => by
    subst z
    rw [hi] at hj
    exact ne q hq (Option.some.inj hj).symm
  rw [List.getElem?_set_ne (fun z => hji z.symm)]
  exact r.off q (sub q hq) j hj
theorem live_ads {c : Cell} (h : c.live = true) : c.ads = [] := by
  cases c with
  | tr t => cases h
  | _ => rfl
theorem Rl.push (r : Rl B ad F H a σ) (h : H p = none) (hc : COk (ad ++ [p]) F (upd H p o) p c) (hcl : c.live = true := by first | assumption | rfl) : Rl B (ad ++ [p]) F (upd H p o) ⟨a.sl, a.cs ++ [c]⟩ σ := by
  obtain ⟨f1, f2, f3⟩ := r.fresh h
  have up : ∀ b, b ≠ p → upd H p o b = H b := fun b hb => upd_ne hb
  refine ⟨r.ff, same_mut r.fh (r.fh.free h), fun b u hb ht e => ?_, fun b hb => ?_, r.new, ?_, ?_, by simp [r.len], ?_, r.sln, fun k x hx => ?_, r.inn.push h r.len (live_ads hcl)⟩
  · rw [up b (ne_of_none e f1)]; exact r.hh b u hb ht e
  · rw [up b (fun z => r.al b hb (z ▸ h))]; exact r.al b hb
  · obtain ⟨ad', rfl, h1⟩ := r.pre
    refine ⟨ad' ++ [p], by simp, fun b hb => ?_⟩
    rcases List.mem_append.mp hb with hb | hb
    · exact h1 b hb
    · rw [List.mem_singleton] at hb; subst hb; exact f1
  · rw [List.nodup_append]
    exact ⟨r.nd, List.nodup_cons.mpr ⟨(fun z => nomatch z), List.nodup_nil⟩, fun b hb q hq e => by
      rw [List.mem_singleton] at hq; subst hq; subst e; exact f3 hb⟩
  · intro i q c' h1 h2
    by_cases hi : i < ad.length
    · rw [List.getElem?_append_left hi] at h1
      rw [List.getElem?_append_left (by have := r.len; omega)] at h2
      obtain ⟨n, l, ok⟩ := r.cel i q c' h1 h2
      have hq : q ≠ p := fun z => by subst z; exact n h
      exact ⟨by rw [up q hq]; exact n, l, ok.mono ⟨[p], rfl⟩ (Same.refl _) (fun o' e => by rw [up q hq]; exact e) fun q' hq' o' e => by rw [up q' (r.offI h (mem_ads h2 hq'))]; exact e⟩
    · have hi2 : i = ad.length := by
        have := (List.getElem?_eq_some_iff.mp h1).1
        simp at this; omega
      subst hi2
      rw [List.getElem?_append_right (Nat.le_refl _)] at h1
      rw [List.getElem?_append_right (by have := r.len; omega)] at h2
      have e1 : p = q := by simpa using h1
      have e2 : c = c' := by simpa [r.len] using h2
      subst e1; subst e2
      exact ⟨ne_none upd_same, fun _ => r.fh.free h, hc⟩
  · obtain ⟨v, h1, h2⟩ := r.slt k x hx
    exact ⟨v, h1, h2.mono ⟨[p], rfl⟩ (Same.refl _)⟩
theorem nodup_get {l : List Addr} (nd : l.Nodup) {i j : Nat} {p : Addr} (h1 : l[i]? = some p) (h2 : l[j]? = some p) : i = j := by
  exact (List.getElem?_inj (List.getElem?_eq_some_iff.mp h1).1 nd).mp (h1.trans h2.symm)
/-- a cell of our own changes -/
theorem Rl.put {c0 : Cell} (r : Rl B ad F H a σ) (hi : ad[i]? = some p) (h0 : a.cs[i]? = some c0) (hl : c0.live = true) (hc : COk ad F (upd H p o) p c) (hcl : c.ads = [] := by rfl) : Rl B ad F (upd H p o) ⟨a.sl, a.cs.set i c⟩ σ := by
  obtain ⟨n0, l0, ok0⟩ := r.cel i p c0 hi h0
  have hF := l0 hl
  have up : ∀ b, b ≠ p → upd H p o b = H b := fun b hb => upd_ne hb
  have offp : ∀ q, q ∈ a.cs.flatMap Cell.ads → q ≠ p := fun q hq z => by
    subst z
    rcases r.inn.off q hq i hi with e | ⟨t, e, _⟩
    · rw [h0] at e; cases e; cases hl
    · rw [h0] at e; cases e; cases hl
  refine ⟨r.ff, same_mut r.fh hF, fun b u hb ht e => ?_, fun b hb => ?_, r.new, r.pre, r.nd, by simp [r.len], ?_, r.sln, r.slt, r.inn.set hi h0 hl hcl (fun q _ h => h) fun q hq h => by rw [up q hq]; exact h⟩
  · have : b ≠ p := fun z => by
      subst z
      obtain ⟨ad', rfl, h1⟩ := r.pre
      rcases List.mem_append.mp (List.mem_of_getElem? hi) with h | h
      · exact hb h
      · rw [h1 b h] at e; cases e
    rw [up b this]; exact r.hh b u hb ht e
  · by_cases z : b = p
    · subst z; exact ne_none upd_same
    · rw [up b z]; exact r.al b hb
  · intro j q c' h1 h2
    by_cases hij : j = i
    · subst hij
      have e1 : p = q := by rw [hi] at h1; simpa using h1
      subst e1
      have hlt := (List.getElem?_eq_some_iff.mp h0).1
      have e2 : c = c' := by
        rw [List.getElem?_set_self hlt] at h2; simpa using h2
      subst e2
      exact ⟨ne_none upd_same, fun _ => hF, hc⟩
    · rw [List.getElem?_set_ne (fun z => hij z.symm)] at h2
      obtain ⟨n, l, ok⟩ := r.cel j q c' h1 h2
      have hq : q ≠ p := fun z => by subst z; exact hij (nodup_get r.nd h1 hi)
      exact ⟨by rw [up q hq]; exact n, l, ok.mono (Ext.refl _) (Same.refl _) (fun o' e => by rw [up q hq]; exact e) fun q' hq' o' e => by rw [up q' (offp q' (mem_ads h2 hq'))]; exact e⟩
/-- a cell of our own is told for good -/
theorem Rl.freeze {c0 : Cell} {y : PyData} (r : Rl B ad F H a σ) (hi : ad[i]? = some p) (h0 : a.cs[i]? = some c0) (hl : c0.live = true) (hn : B.S.length ≤ i) (ho : H p = some o) (hd : Da (upd F p o) y (.ref p)) : Rl B ad (upd F p o) H ⟨a.sl, a.cs.set i (.fz y)⟩ σ := by
  obtain ⟨n0, l0, ok0⟩ := r.cel i p c0 hi h0
  have hF := l0 hl
  have sF : Same F (upd F p o) := same_upd hF
  have hp0 : B.H0 p = none := by
    obtain ⟨ad', e, h1⟩ := r.pre
    rw [e, List.getElem?_append_right hn] at hi
    exact h1 p (List.mem_of_getElem? hi)
  refine ⟨r.ff.trans sF, Same.cell r.fh ho, r.hh, r.al, fun b e n => ?_, r.pre, r.nd, by simp [r.len], ?_, r.sln, fun k x hx => ?_, r.inn.set hi h0 hl rfl (fun q hq h => by rw [upd_ne hq]; exact h) fun q hq h => h⟩
  · have : b ≠ p := fun z => by subst z; exact n hp0
    rw [upd_ne this]; exact r.new b e n
  · intro j q c' h1 h2
    by_cases hij : j = i
    · subst hij
      have e1 : p = q := by rw [hi] at h1; simpa using h1
      subst e1
      have hlt := (List.getElem?_eq_some_iff.mp h0).1
      have e2 : Cell.fz y = c' := by
        rw [List.getElem?_set_self hlt] at h2; simpa using h2
      subst e2
      exact ⟨n0, (fun z => Bool.noConfusion z), hd⟩
    · rw [List.getElem?_set_ne (fun z => hij z.symm)] at h2
      obtain ⟨n, l, ok⟩ := r.cel j q c' h1 h2
      have hq : q ≠ p := fun z => by subst z; exact hij (nodup_get r.nd h1 hi)
      exact ⟨n, fun z => by rw [upd_ne hq]; exact l z, ok.mono (Ext.refl _) sF (fun o' e => e) fun _ _ o' e => e⟩
  · obtain ⟨v, h1, h2⟩ := r.slt k x hx
    exact ⟨v, h1, h2.mono (Ext.refl _) sF⟩
theorem Rl.set (r : Rl B ad F H a σ) (h : VOk ad F x v) : Rl B ad F H ⟨a.sl.set k (some x), a.cs⟩ (σ.set k (some v)) := by
  refine ⟨r.ff, r.fh, r.hh, r.al, r.new, r.pre, r.nd, r.len, r.cel, by simp [r.sln], fun j y hy => ?_, r.inn⟩
  by_cases hj : j = k
  · subst hj
    have hlt : j < a.sl.length := by
      have := (List.getElem?_eq_some_iff.mp hy).1
      simpa using this
    have e : x = y := by
      rw [List.getElem?_set_self hlt] at hy; simpa using hy
    subst e
    exact ⟨v, List.getElem?_set_self (by rw [← r.sln]; exact hlt), h⟩
  · have hy' : a.sl[j]? = some (some y) := by
      have : (a.sl.set k (some x))[j]? = a.sl[j]? := List.getElem?_set_ne (fun z => hj z.symm)
      rw [← this]; exact hy
    obtain ⟨w, h1, h2⟩ := r.slt j y hy'
    exact ⟨w, by rw [List.getElem?_set_ne (fun z => hj z.symm)]; exact h1, h2⟩
end
end Kr
/-! layer A2 -/
namespace Kr
open PySem L2
/-! ## judgements over abstract states -/
abbrev VQ := AVal → AS → Prop
abbrev TEA := AS → VQ → Prop
abbrev TTA := AS → (Bool → AS → Prop) → Prop
abbrev TLA := AS → (List AVal → AS → Prop) → Prop
abbrev TNA := AS → (Cell → AS → Prop) → Prop
abbrev TGA := AVal → AS → (AS → Prop) → Prop
structure DA where
  nx : AS → Prop
  rt : AVal → AS → Prop
  bk : AS → Prop
  ct : AS → Prop
abbrev TSA := DA → AS → Prop
def Post (B : Bs) (ad : List Addr) (F : Hp) (σ : St) (Q : VQ) : VK := fun v H2 => ∃ ad2 F2 x a2, Ext ad ad2 ∧ Same F F2 ∧ Rl B ad2 F2 H2 a2 σ ∧ VOk ad2 F2 x v ∧ Q x a2
def PostT (B : Bs) (ad : List Addr) (F : Hp) (σ : St) (Q : Bool → AS → Prop) : Bool → Hp → Prop := fun b H2 => ∃ ad2 F2 a2, Ext ad ad2 ∧ Same F F2 ∧ Rl B ad2 F2 H2 a2 σ ∧ Q b a2
def PostL (B : Bs) (ad : List Addr) (F : Hp) (σ : St) (n : Nat) (Q : List AVal → AS → Prop) : List V → Hp → Prop := fun vs H2 => ∃ ad2 F2 xs a2, Ext ad ad2 ∧ Same F F2 ∧ Rl B ad2 F2 H2 a2 σ ∧ Paired (VOk ad2 F2) xs vs ∧ xs.length = n ∧ Q xs a2
/-- a new cell -/
def PostN (B : Bs) (ad : List Addr) (F : Hp) (σ : St) (Q : Cell → AS → Prop) : VK := fun v H2 => ∃ ad2 F2 c a2 p H1 o, Ext ad ad2 ∧ Same F F2 ∧ Rl B ad2 F2 H1 a2 σ ∧ v = .ref p ∧ H1 p = none ∧ H2 = upd H1 p o ∧ COk ad2 F2 H2 p c ∧ c.live = true ∧ Q c a2
structure EA (X : Cx) (B : Bs) (e : Expr) (t : TEA) : Prop where
  run : ∀ ad F H s σ Q, Rl B ad F H s σ → t s Q → WE X e σ H (Post B ad F σ Q)
structure EN (X : Cx) (B : Bs) (e : Expr) (t : TNA) : Prop where
  run : ∀ ad F H s σ Q, Rl B ad F H s σ → t s Q → WE X e σ H (PostN B ad F σ Q)
structure ET (X : Cx) (B : Bs) (e : Expr) (t : TTA) : Prop where
  run : ∀ ad F H s σ Q, Rl B ad F H s σ → t s Q → WT X e σ H (PostT B ad F σ Q)
structure EW (X : Cx) (B : Bs) (e : Expr) (t : TTA) : Prop where
  run : ∀ ad F H s σ Q, Rl B ad F H s σ → t s Q → WW X e σ H (PostT B ad F σ Q)
structure EL (X : Cx) (B : Bs) (es : List Expr) (t : TLA) : Prop where
  run : ∀ ad F H s σ Q, Rl B ad F H s σ → t s Q → WA X es σ H (PostL B ad F σ es.length Q)
def liftD (B : Bs) (D : DA) : Ends where
  nx := fun σ H => ∃ ad F s, Rl B ad F H s σ ∧ D.nx s
  rt := fun v H => ∃ ad F x s σ, Rl B ad F H s σ ∧ VOk ad F x v ∧ D.rt x s
  bk := fun σ H => ∃ ad F s, Rl B ad F H s σ ∧ D.bk s
  ct := fun σ H => ∃ ad F s, Rl B ad F H s σ ∧ D.ct s
structure SA (X : Cx) (B : Bs) (st : Stmt) (t : TSA) : Prop where
  run : ∀ D s, t D s → ∀ ad F H σ, Rl B ad F H s σ → WS X st (liftD B D) σ H
structure SS (X : Cx) (B : Bs) (st : List Stmt) (t : TSA) : Prop where
  run : ∀ D s, t D s → ∀ ad F H σ, Rl B ad F H s σ → WSs X st (liftD B D) σ H
def onSome {α : Type} (o : Option α) (k : α → Prop) : Prop := ∃ v, o = some v ∧ k v
theorem onSome_some {α : Type} {v : α} {k : α → Prop} : onSome (some v) k = k v := propext ⟨fun ⟨_, e, h⟩ => by cases e; exact h, fun h => ⟨v, rfl, h⟩⟩
def AVal.int? : AVal → Option Int | .d (.int i) => some i | _ => none
def AVal.str? : AVal → Option Str | .d (.str i) => some i | _ => none
def AVal.bool? : AVal → Option Bool | .d (.bool i) => some i | _ => none
theorem AVal.int?_of {x : AVal} {i : Int} (h : x.int? = some i) : x = .d (.int i) := by
  unfold AVal.int? at h; split at h
  · cases h; rfl
  · cases h
theorem AVal.str?_of {x : AVal} {i : Str} (h : x.str? = some i) : x = .d (.str i) := by
  unfold AVal.str? at h; split at h
  · cases h; rfl
  · cases h
theorem AVal.bool?_of {x : AVal} {i : Bool} (h : x.bool? = some i) : x = .d (.bool i) := by
  unfold AVal.bool? at h; split at h
  · cases h; rfl
  · cases h
theorem AVal.int?_int {i : Int} : (AVal.d (.int i)).int? = some i := rfl
theorem AVal.str?_str {i : Str} : (AVal.d (.str i)).str? = some i := rfl
theorem AVal.bool?_bool {i : Bool} : (AVal.d (.bool i)).bool? = some i := rfl
/-! ### nodes of trees -/
def Tr.at (t : Tr) : List Nat → Option Tr
  | [] => some t
  | i :: p => match t.at p with
    | some (.nd _ _ xs) => xs[i]?
    | _ => none
def leafs : List Tr → Option (List PyData)
  | [] => some []
  | .d x :: xs => (leafs xs).map (x :: ·)
  | .nd _ _ _ :: _ => none
def nodeAt (s : AS) : AVal → Option (Nat × List Nat × Kd × Addr × List Tr)
  | .r n => match s.cs[n]? with
    | some (.tr (.nd k q xs)) => some (n, [], k, q, xs)
    | _ => none
  | .a p n pt => match s.cs[n]? with
    | some (.tr t) => match t.at pt with
      | some (.nd k q xs) => if q = p then some (n, pt, k, q, xs) else none
      | _ => none
    | _ => none
  | _ => none
def leafL : Option (Nat × List Nat × Kd × Addr × List Tr) → Option (List PyData)
  | some (_, _, .lst, _, xs) => leafs xs
  | _ => none
theorem TrAll.get {F H : Hp} : ∀ {ts : List Tr} {vs : List V} {i : Nat} {t : Tr}, TrAll F H ts vs → ts[i]? = some t → ∃ v, vs[i]? = some v ∧ TrOk F H t v
  | [], _, _, _, _, e => by simp at e
  | t0 :: ts, vs, i, t, h, e => by
    obtain ⟨v, r, rfl, h1, h2⟩ := (show ∃ v r, vs = v :: r ∧ TrOk F H t0 v ∧ TrAll F H ts r from h)
    cases i with
    | zero => simp at e; subst e; exact ⟨v, rfl, h1⟩
    | succ i => simpa using TrAll.get h2 (by simpa using e)
theorem TrAll.length {F H : Hp} : ∀ {ts : List Tr} {vs : List V}, TrAll F H ts vs → vs.length = ts.length
  | [], _, h => by obtain rfl := (show _ = [] from h); rfl
  | t :: ts, vs, h => by
    obtain ⟨v, r, rfl, _, h2⟩ := (show ∃ v r, vs = v :: r ∧ TrOk F H t v ∧ TrAll F H ts r from h)
    simp [TrAll.length h2]
theorem TrOk.node {F H : Hp} {k : Kd} {a : Addr} {xs : List Tr} {v : V} (h : TrOk F H (.nd k a xs) v) : v = .ref a ∧ ∃ vs, H a = some (k.ho vs) ∧ k.side H a xs.length ∧ TrAll F H xs vs := h
theorem TrOk.of {F H : Hp} {k : Kd} {a : Addr} {xs : List Tr} {vs : List V} (h1 : H a = some (k.ho vs)) (h2 : k.side H a xs.length) (h3 : TrAll F H xs vs) : TrOk F H (.nd k a xs) (.ref a) := (show V.ref a = .ref a ∧ ∃ vs, H a = some (k.ho vs) ∧ k.side H a xs.length ∧ TrAll F H xs vs from ⟨rfl, vs, h1, h2, h3⟩)
theorem TrOk.at {F H : Hp} {t : Tr} {v : V} (h : TrOk F H t v) : ∀ {pt : List Nat} {u : Tr}, t.at pt = some u → ∃ w, TrOk F H u w
  | [], u, e => by cases e; exact ⟨v, h⟩
  | i :: p, u, e => by
    unfold Tr.at at e
    split at e
    · rename_i k a xs hp
      obtain ⟨w, hw⟩ := TrOk.at h hp
      obtain ⟨_, vs, _, _, h3⟩ := hw.node
      obtain ⟨z, _, hz⟩ := h3.get e
      exact ⟨z, hz⟩
    · cases e
theorem leafs_ok {F H : Hp} : ∀ {ts : List Tr} {vs : List V} {ds : List PyData}, leafs ts = some ds → TrAll F H ts vs → DaAll F ds vs
  | [], _, _, e, h => by cases e; exact h
  | .d x :: ts, vs, ds, e, h => by
    obtain ⟨v, r, rfl, h1, h2⟩ := (show ∃ v r, vs = v :: r ∧ TrOk F H (.d x) v ∧ TrAll F H ts r from h)
    have e' : (leafs ts).map (x :: ·) = some ds := e
    cases hl : leafs ts with
    | none => rw [hl] at e'; cases e'
    | some l => rw [hl] at e'; cases e'; exact daAll_cons h1 (leafs_ok hl h2)
  | .nd _ _ _ :: _, _, _, e, _ => by cases e
theorem leafs_map (ds : List PyData) : leafs (ds.map .d) = some ds := by
  induction ds with
  | nil => rfl
  | cons d ds ih => show (leafs (ds.map .d)).map (d :: ·) = _; rw [ih]; rfl
structure NodeAt (ad : List Addr) (F H : Hp) (s : AS) (v : V) (n : Nat) (pt : List Nat) (k : Kd) (q : Addr) (xs : List Tr) (t : Tr) (p : Addr) (vs : List V) : Prop where
  cell : s.cs[n]? = some (.tr t)
  root : ad[n]? = some p
  here : t.at pt = some (.nd k q xs)
  val : v = .ref q
  ho : H q = some (k.ho vs)
  side : k.side H q xs.length
  kids : TrAll F H xs vs
  tree : TrOk F H t (.ref p)
theorem nodeAt_ok {B : Bs} {ad : List Addr} {F H : Hp} {s : AS} {σ : St} {x : AVal} {v : V} {n : Nat} {pt : List Nat} {k : Kd} {q : Addr} {xs : List Tr} (r : Rl B ad F H s σ) (h : VOk ad F x v) (e : nodeAt s x = some (n, pt, k, q, xs)) : ∃ t p vs, NodeAt ad F H s v n pt k q xs t p vs := by
  have key : ∀ (m : Nat) (t : Tr) (u : V), s.cs[m]? = some (.tr t) → t.at pt = some (.nd k q xs) → m = n → u = .ref q → ∃ t p vs, NodeAt ad F H s u n pt k q xs t p vs := by
    intro m t u hc ha hm hu
    subst hm
    have hl : m < ad.length := by rw [r.len]; exact (List.getElem?_eq_some_iff.mp hc).1
    have hp : ad[m]? = some ad[m] := List.getElem?_eq_getElem hl
    obtain ⟨_, _, h1, h2⟩ := r.cel m _ _ hp hc
    obtain ⟨w, hw⟩ := h2.at ha
    obtain ⟨_, vs, h4, h5, h6⟩ := hw.node
    exact ⟨t, ad[m], vs, hc, hp, ha, hu, h4, h5, h6, h2⟩
  cases x with
  | d _ => cases e
  | s _ _ => cases e
  | r m =>
    obtain ⟨a, h1, rfl⟩ := h
    simp only [nodeAt] at e
    split at e
    · rename_i k' q' xs' hc
      obtain ⟨_, _, h2, _⟩ := r.cel m _ _ h1 hc
      cases h2
      cases e
      exact key _ _ _ hc rfl rfl rfl
    · cases e
  | a p m pt' =>
    have h : v = .ref p := h
    subst h
    simp only [nodeAt] at e
    split at e
    · rename_i t hc
      split at e
      · rename_i k' q' xs' ha
        split at e
        · rename_i hq
          cases e
          exact key _ t _ hc ha rfl (by rw [hq])
        · cases e
      · cases e
    · cases e
/-- a list to be read, its items told for good -/
def listOf (s : AS) : AVal → Option (List PyData)
  | .d (.list ds) => some ds
  | .r n => match s.cs[n]? with
    | some (.lst ds) => some ds
    | some (.fz (.list ds)) => some ds
    | some (.tr (.nd .lst _ xs)) => leafs xs
    | _ => none
  | .a p n pt => leafL (nodeAt s (.a p n pt))
  | _ => none
theorem leafL_ok {B : Bs} {ad : List Addr} {F H : Hp} {s : AS} {σ : St} {x : AVal} {v : V} {ds : List PyData} (r : Rl B ad F H s σ) (h : VOk ad F x v) (e : leafL (nodeAt s x) = some ds) : ∃ l vs, v = .ref l ∧ H l = some (.lst vs) ∧ DaAll F ds vs := by
  unfold leafL at e
  split at e
  · rename_i n pt q xs hn
    obtain ⟨t, p, vs, N⟩ := nodeAt_ok r h hn
    exact ⟨q, vs, N.val, N.ho, leafs_ok e N.kids⟩
  · cases e
def dictD (kvs : List (Key × PyData)) : PyData := .dict (kvs.map fun p => (keyD p.1, p.2))
theorem noEx_dictD (kvs : List (Key × PyData)) : noEx (dictD kvs) = true := by
  cases kvs with
  | nil => rfl
  | cons p r =>
    obtain ⟨k, x⟩ := p
    cases k <;> rfl
def frzC : Cell → Option PyData
  | .lst ds => some (.list ds)
  | .dK kvs => some (dictD kvs)
  | .fz x => some x
  | _ => none
mutual
def Tr.data? : Tr → Option PyData
  | .d x => some x
  | .nd k _ xs => match k with
    | .lst => (Tr.datas? xs).map .list
    | .tup => (Tr.datas? xs).map .tuple
    | .dct ks => (Tr.datas? xs).map fun ds => dictD (ks.zip ds)
    | .dctT _ => none
    | .obj _ _ _ => none
def Tr.datas? : List Tr → Option (List PyData)
  | [] => some []
  | t :: ts => match t.data?, Tr.datas? ts with
    | some y, some ys => some (y :: ys)
    | _, _ => none
end
def cellD : Cell → Option PyData
  | .tr t => t.data?
  | c => frzC c
def dataOf (s : AS) : AVal → Option PyData
  | .d x => some x
  | .r n => (s.cs[n]?).bind cellD
  | .s _ _ => none
  | .a p n pt => match nodeAt s (.a p n pt) with
    | some (_, _, k, q, xs) => Tr.data? (.nd k q xs)
    | none => none
section
variable {X : Cx} {B : Bs} {ad ad1 : List Addr} {F F1 H H1 : Hp} {σ : St} {Q : VQ} {s : AS} {x y : AVal} {v u : V} {e a b c : Expr} {es : List Expr} {pos : Pos} {ta tb tc : TEA} {tx ty : TTA} {tl : TLA} {tn : TNA}
theorem Post.up (h : Post B ad1 F1 σ Q v H) (e : Ext ad ad1) (k : Same F F1) : Post B ad F σ Q v H := by
  obtain ⟨ad2, F2, x, a2, h1, h2, h3⟩ := h
  exact ⟨ad2, F2, x, a2, e.trans h1, k.trans h2, h3⟩
theorem PostT.up {Q : Bool → AS → Prop} {b : Bool} (h : PostT B ad1 F1 σ Q b H) (e : Ext ad ad1) (k : Same F F1) : PostT B ad F σ Q b H := by
  obtain ⟨ad2, F2, a2, h1, h2, h3⟩ := h
  exact ⟨ad2, F2, a2, e.trans h1, k.trans h2, h3⟩
theorem PostL.up {n : Nat} {Q : List AVal → AS → Prop} {vs : List V} (h : PostL B ad1 F1 σ n Q vs H) (e : Ext ad ad1) (k : Same F F1) : PostL B ad F σ n Q vs H := by
  obtain ⟨ad2, F2, x, a2, h1, h2, h3⟩ := h
  exact ⟨ad2, F2, x, a2, e.trans h1, k.trans h2, h3⟩
theorem PostN.up {Q : Cell → AS → Prop} (h : PostN B ad1 F1 σ Q v H) (e : Ext ad ad1) (k : Same F F1) : PostN B ad F σ Q v H := by
  obtain ⟨ad2, F2, c, a2, p, H1, o, h1, h2, h3⟩ := h
  exact ⟨ad2, F2, c, a2, p, H1, o, e.trans h1, k.trans h2, h3⟩
theorem Post.here (r : Rl B ad F H s σ) (h : VOk ad F x v) (q : Q x s) : Post B ad F σ Q v H := ⟨ad, F, x, s, Ext.refl _, Same.refl _, r, h, q⟩
theorem PostT.here {Q : Bool → AS → Prop} {b : Bool} (r : Rl B ad F H s σ) (q : Q b s) : PostT B ad F σ Q b H := ⟨ad, F, s, Ext.refl _, Same.refl _, r, q⟩
theorem Post.data {d : PyData} (r : Rl B ad F H s σ) (g : Gr F H F1 H1) (h : Da F1 d v) (q : Q (.d d) s) : Post B ad F σ Q v H1 := ⟨ad, F1, .d d, s, Ext.refl _, g.ff, r.gr g, h, q⟩
/-- a new thing that is told for good -/
theorem Post.newD {d : PyData} {p : Addr} {o : HO} (r : Rl B ad F H s σ) (hp : H p = none) (h : Da (upd F p o) d (.ref p)) (q : Q (.d d) s) : Post B ad F σ Q (.ref p) (upd H p o) := Post.data r ((Gr.refl r.fh).shut hp) h q
theorem PostN.here {Q : Cell → AS → Prop} {p : Addr} {o : HO} {c : Cell} (r : Rl B ad F H s σ) (hp : H p = none) (h : COk ad F (upd H p o) p c) (hl : c.live = true) (q : Q c s) : PostN B ad F σ Q (.ref p) (upd H p o) :=
  ⟨ad, F, c, s, p, H, o, Ext.refl _, Same.refl _, r, rfl, hp, rfl, h, hl, q⟩
theorem VOk.list {ds : List PyData} (r : Rl B ad F H s σ) (h : VOk ad F x v) (e : listOf s x = some ds) : ∃ l vs, v = .ref l ∧ H l = some (.lst vs) ∧ DaAll F ds vs := by
  unfold listOf at e
  split at e
  · cases e
    obtain ⟨a, xs, rfl, h1, h2⟩ := h
    exact ⟨a, xs, rfl, r.fh _ _ h1, h2⟩
  · rename_i n
    obtain ⟨a, h1, rfl⟩ := h
    split at e
    · rename_i ds' hc
      cases e
      obtain ⟨_, _, vs, h2, h3⟩ := r.cel n a _ h1 hc
      exact ⟨a, vs, rfl, h2, h3⟩
    · rename_i ds' hc
      cases e
      obtain ⟨_, _, h4⟩ := r.cel n a _ h1 hc
      obtain ⟨a', xs, e', h2, h3⟩ := h4
      cases e'
      exact ⟨a, xs, rfl, r.fh _ _ h2, h3⟩
    · rename_i q xs hc
      obtain ⟨_, _, h2, h3⟩ := r.cel n a _ h1 hc
      cases h2
      obtain ⟨_, vs, h4, _, h5⟩ := h3.node
      exact ⟨_, vs, rfl, h4, leafs_ok e h5⟩
    · cases e
  · exact leafL_ok r h e
  · cases e
theorem daKV_of {F : Hp} : ∀ {kvs : List (Key × PyData)} {es : List (Key × V)}, KvOk F kvs es → DaKV F (kvs.map fun p => (keyD p.1, p.2)) es
  | _, _, .nil => rfl
  | _, _, .cons (a := p) (b := q) h t => by
    refine ⟨q.1, q.2, _, rfl, ?_, h.2, daKV_of t⟩
    rw [h.1]
    cases q.1 <;> rfl
theorem KvOk.mono {F F' : Hp} {kvs : List (Key × PyData)} {es : List (Key × V)} (h : KvOk F kvs es) (k : Same F F') : KvOk F' kvs es := Paired.imp h fun _ _ h => ⟨h.1, h.2.mono k⟩
/-- what a cell holds, told for good -/
theorem COk.frz {p : Addr} {c : Cell} {d : PyData} (h : COk ad F H p c) (hl : c.live = true) (hF : F p = none) (e : frzC c = some d) : ∃ o, H p = some o ∧ Da (upd F p o) d (.ref p) := by
  cases c with
  | lst ds => cases e; obtain ⟨vs, h1, h2⟩ := h; exact ⟨_, h1, p, vs, rfl, upd_same, h2.mono (same_upd hF)⟩
  | dK ds => cases e; obtain ⟨vs, h1, h2⟩ := h; exact ⟨_, h1, Da.ofDict (.inl upd_same) (daKV_of (h2.mono (same_upd hF)))⟩
  | fz x => cases hl
  | pool n => cases e
  | gone => cases e
  | nl xs => cases e
  | nt xs => cases e
  | nd xs => cases e
  | dl _ _ _ => cases e
  | tr _ => cases e
/-! ### names and constants -/
def varA (k : Nat) : TEA := fun s Q => onSome (s.sl[k]?.bind id) fun x => Q x s
theorem ea_v (k : Nat) {x : Str} (hN : X.N[k]? = some x := by rfl) (hv : Vis X.env.scope x := by first | exact Or.inl rfl | exact Or.inr (Or.inl rfl) | exact Or.inr (Or.inr rfl)) (hd : (x == ("__debug__" : Str)) = false := by decide)
    (hcd : (x == ("__classdict__" : Str)) = false := by decide) : EA X B (.Name x pos) (varA k) := ⟨fun ad F H s σ Q r t => by
  obtain ⟨y, e, q⟩ := t
  have e' : s.sl[k]? = some (some y) := by
    cases h : s.sl[k]? with
    | none => rw [h] at e; cases e
    | some o => rw [h] at e; cases o with
      | none => cases e
      | some z => cases e; rfl
  obtain ⟨v, h1, h2⟩ := r.slt k y e'
  exact we_of (pe_var hN hv hd hcd) ⟨v, h1, .here r h2 q⟩⟩
def cstA (d : PyData) : TEA := fun s Q => Q (.d d) s
theorem ea_int {i : Int} {k : Nat} : EA X B (.Constant (.int i) k pos) (cstA (.int i)) := ⟨fun ad F H s σ Q r t => we_of pe_int (.here (x := .d (.int i)) r rfl t)⟩
theorem ea_str {i : Str} {k : Nat} : EA X B (.Constant (.str i) k pos) (cstA (.str i)) := ⟨fun ad F H s σ Q r t => we_of pe_str (.here (x := .d (.str i)) r rfl t)⟩
theorem ea_bool {i : Bool} {k : Nat} : EA X B (.Constant (.bool i) k pos) (cstA (.bool i)) := ⟨fun ad F H s σ Q r t => we_of pe_bl (.here (x := .d (.bool i)) r rfl t)⟩
theorem ea_none {k : Nat} : EA X B (.Constant .none k pos) (cstA .none) := ⟨fun ad F H s σ Q r t => we_of pe_non (.here (x := .d .none) r rfl t)⟩
/-! ### new things -/
def ownA (t : TNA) : TEA := fun s Q => t s fun c s1 => Q (.r s1.cs.length) ⟨s1.sl, s1.cs ++ [c]⟩
def frzA (t : TNA) : TEA := fun s Q => t s fun c s1 => onSome (frzC c) fun d => Q (.d d) s1
theorem ea_own (h : EN X B e tn) : EA X B e (ownA tn) := ⟨fun ad F H s σ Q r t => (h.run ad F H s σ _ r t).imp fun v H2 q => by
  obtain ⟨ad2, F2, c, a2, p, H1, o, h1, h2, r2, rfl, hp, rfl, ok, hl, q⟩ := q
  have r3 := r2.push (o := o) hp (ok.mono (ad2 := ad2 ++ [p]) ⟨[p], rfl⟩ (Same.refl _) (fun _ e => e) fun _ _ _ e => e) hl
  exact ⟨_, F2, .r a2.cs.length, _, h1.trans ⟨[p], rfl⟩, h2, r3, ⟨p, by rw [← r2.len]; simp, rfl⟩, q⟩⟩
theorem ea_frz (h : EN X B e tn) : EA X B e (frzA tn) := ⟨fun ad F H s σ Q r t => (h.run ad F H s σ _ r t).imp fun v H2 q => by
  obtain ⟨ad2, F2, c, a2, p, H1, o, h1, h2, r2, rfl, hp, rfl, ok, hl, d, hd, q⟩ := q
  obtain ⟨o', e1, e2⟩ := ok.frz hl (r2.fh.free hp) hd
  rw [upd_same] at e1
  cases e1
  exact (Post.newD r2 hp e2 q).up h1 h2⟩
/-! ### two operands -/
def rAny (X : Cx) (f : Value → Value → Sem Value) : R2 := fun u v H Q => ∃ r, OpR X f r ∧ r u v H Q
theorem op_any (f : Value → Value → Sem Value) : OpR X f (rAny X f) := fun pins s σ H x y v u Q I rx ry ⟨r, h, q⟩ => h pins s σ H x y v u Q I rx ry q
def OpA (X : Cx) (B : Bs) (f : Value → Value → Sem Value) (rr : AVal → AVal → TEA) : Prop := ∀ ad F H s σ x y u v Q, Rl B ad F H s σ → VOk ad F x u → VOk ad F y v → rr x y s Q → ∃ r, OpR X f r ∧ r u v H (Post B ad F σ Q)
def OpN (X : Cx) (B : Bs) (f : Value → Value → Sem Value) (rr : AVal → AVal → TNA) : Prop := ∀ ad F H s σ x y u v Q, Rl B ad F H s σ → VOk ad F x u → VOk ad F y v → rr x y s Q → ∃ r, OpR X f r ∧ r u v H (PostN B ad F σ Q)
def opA (rr : AVal → AVal → TEA) (ta tb : TEA) : TEA := fun s Q => ta s fun x s1 => tb s1 fun y s2 => rr x y s2 Q
def opN (rr : AVal → AVal → TNA) (ta tb : TEA) : TNA := fun s Q => ta s fun x s1 => tb s1 fun y s2 => rr x y s2 Q
theorem we2 {R : V → V → Hp → Prop} {K : VK} {ad : List Addr} {F H : Hp} {s : AS} {Q2 : AVal → AVal → AS → Prop} (ha : EA X B a ta) (hb : EA X B b tb) (r : Rl B ad F H s σ) (t : ta s fun x s1 => tb s1 fun y s2 => Q2 x y s2)
    (k : ∀ ad2 F2 H2 s2 x y u v, Ext ad ad2 → Same F F2 → Rl B ad2 F2 H2 s2 σ → VOk ad2 F2 x u → VOk ad2 F2 y v → Q2 x y s2 → R u v H2) : WE X a σ H fun u H1 => WE X b σ H1 fun v H2 => R u v H2 :=
  (ha.run ad F H s σ _ r t).imp fun u H1 q => by
    obtain ⟨ad1, F1, x, s1, e1, k1, r1, v1, t1⟩ := q
    refine (hb.run ad1 F1 H1 s1 σ _ r1 t1).imp fun v H2 q => ?_
    obtain ⟨ad2, F2, y, s2, e2, k2, r2, v2, t2⟩ := q
    exact k ad2 F2 H2 s2 x y u v (e1.trans e2) (k1.trans k2) r2 (v1.mono e2 k2) v2 t2
theorem ea_op {op : Operator} {rr : AVal → AVal → TEA} (ho : OpA X B (binaryOp op) rr) (ha : EA X B a ta) (hb : EA X B b tb) : EA X B (.BinOp a op b pos) (opA rr ta tb) := ⟨fun ad F H s σ Q r t =>
  we_of (pe_op (op_any _) pe_we pe_we) (we2 (R := fun u v H2 => rAny X (binaryOp op) u v H2 (Post B ad F σ Q)) (K := Post B ad F σ Q) ha hb r t fun ad2 F2 H2 s2 x y u v e k r2 hu hv t2 => by
    obtain ⟨q, h1, h2⟩ := ho ad2 F2 H2 s2 σ x y u v Q r2 hu hv t2
    exact ⟨fun u v H K => ∃ K', (∀ w H', K' w H' → K w H') ∧ q u v H K', fun pins s σ H x y v u Q I rx ry ⟨K', k1, k2⟩ => thn (h1 pins s σ H x y v u K' I rx ry k2) fun z s' ⟨w, H', I', rz, qz⟩ => ⟨w, H', I', rz, k1 w H' qz⟩, _, fun w H' p => Post.up p e k, h2⟩)⟩
theorem en_op {op : Operator} {rr : AVal → AVal → TNA} (ho : OpN X B (binaryOp op) rr) (ha : EA X B a ta) (hb : EA X B b tb) : EN X B (.BinOp a op b pos) (opN rr ta tb) := ⟨fun ad F H s σ Q r t =>
  we_of (pe_op (op_any _) pe_we pe_we) (we2 (R := fun u v H2 => rAny X (binaryOp op) u v H2 (PostN B ad F σ Q)) (K := PostN B ad F σ Q) ha hb r t fun ad2 F2 H2 s2 x y u v e k r2 hu hv t2 => by
    obtain ⟨q, h1, h2⟩ := ho ad2 F2 H2 s2 σ x y u v Q r2 hu hv t2
    exact ⟨fun u v H K => ∃ K', (∀ w H', K' w H' → K w H') ∧ q u v H K', fun pins s σ H x y v u Q I rx ry ⟨K', k1, k2⟩ => thn (h1 pins s σ H x y v u K' I rx ry k2) fun z s' ⟨w, H', I', rz, qz⟩ => ⟨w, H', I', rz, k1 w H' qz⟩, _, fun w H' p => PostN.up p e k, h2⟩)⟩
/-! ### comparisons: told is a truth -/
def opT (rr : AVal → AVal → TTA) (ta tb : TEA) : TTA := fun s Q => ta s fun x s1 => tb s1 fun y s2 => rr x y s2 Q
def OpT (X : Cx) (B : Bs) (f : Value → Value → Sem Value) (rr : AVal → AVal → TTA) : Prop := ∀ ad F H s σ x y u v (Q : Bool → AS → Prop), Rl B ad F H s σ → VOk ad F x u → VOk ad F y v → rr x y s Q → ∃ b r, Q b s ∧ OpR X f r ∧ ∀ K : VK, K (.bl b) H → r u v H K
def boolA (t : TTA) : TEA := fun s Q => t s fun b s1 => Q (.d (.bool b)) s1
theorem et_cmp {op : CmpOp} {rr : AVal → AVal → TTA} (ho : OpT X B (compareOp op) rr) (ha : EA X B a ta) (hb : EA X B b tb) (hm : behindInMarks op b = false := by first | exact nomark _ | rfl) : ET X B (.Compare a [op] [b] pos) (opT rr ta tb) := ⟨fun ad F H s σ Q r t =>
  wt_of (pt_cmpR (op_any _) pe_we pe_we hm) (we2 (R := fun u v H2 => rAny X (compareOp op) u v H2 fun x H' => ∃ k, x = .bl k ∧ PostT B ad F σ Q k H') (K := fun _ _ => True) ha hb r t fun ad2 F2 H2 s2 x y u v e k r2 hu hv t2 => by
    obtain ⟨b, q, h0, h1, h2⟩ := ho ad2 F2 H2 s2 σ x y u v Q r2 hu hv t2
    exact ⟨q, h1, h2 _ ⟨b, rfl, (PostT.here r2 h0).up e k⟩⟩)⟩
theorem ea_cmp {op : CmpOp} {rr : AVal → AVal → TTA} (ho : OpT X B (compareOp op) rr) (ha : EA X B a ta) (hb : EA X B b tb) (hm : behindInMarks op b = false := by first | exact nomark _ | rfl) : EA X B (.Compare a [op] [b] pos) (boolA (opT rr ta tb)) := ⟨fun ad F H s σ Q r t =>
  we_of (pe_cmpR (op_any _) pe_we pe_we hm) (we2 (R := fun u v H2 => rAny X (compareOp op) u v H2 (Post B ad F σ Q)) (K := fun _ _ => True) ha hb r t fun ad2 F2 H2 s2 x y u v e k r2 hu hv t2 => by
    obtain ⟨b, q, h0, h1, h2⟩ := ho ad2 F2 H2 s2 σ x y u v _ r2 hu hv t2
    exact ⟨q, h1, h2 _ ((Post.here (x := .d (.bool b)) r2 rfl h0).up e k)⟩)⟩
/-! ### truth -/
def valA (t : TEA) : TTA := fun s Q => t s fun x s1 => onSome x.bool? fun b => Q b s1
theorem et_val (h : EA X B e ta) (he : ∀ whole, isTrue e X.env whole = (do let v ← whole; standAt e.pos; holding [v] (truthy v)) := by intro _; rfl) : ET X B e (valA ta) := ⟨fun ad F H s σ Q r t =>
  wt_of (pt_val pe_we he) ((h.run ad F H s σ _ r t).imp fun v H2 q => by
    obtain ⟨ad2, F2, x, a2, h1, h2, r2, hv, b, hb, q⟩ := q
    have := AVal.bool?_of hb
    subst this
    exact ⟨b, hv, ad2, F2, a2, h1, h2, r2, q⟩)⟩
theorem ET.of_w (h : EW X B e tx) : ET X B e tx := ⟨fun ad F H s σ Q r t => wt_of (PW.pt pw_ww) (h.run ad F H s σ Q r t)⟩
def notA (t : TTA) : TTA := fun s Q => t s fun b s1 => Q (!b) s1
theorem et_not (h : ET X B a tx) : ET X B (.UnaryOp .Not a pos) (notA tx) := ⟨fun ad F H s σ Q r t => wt_of (pt_not pt_wt) (h.run ad F H s σ _ r t)⟩
def andA (t u : TTA) : TTA := fun s Q => t s fun b s1 => if b = true then u s1 Q else Q false s1
def orA (t u : TTA) : TTA := fun s Q => t s fun b s1 => if b = true then Q true s1 else u s1 Q
theorem ew_and1 (h : ET X B a tx) : EW X B (.BoolOp .And [a] pos) tx := ⟨fun ad F H s σ Q r t => ww_of (pw_and1 pt_wt) (h.run ad F H s σ Q r t)⟩
theorem ew_or1 (h : ET X B a tx) : EW X B (.BoolOp .Or [a] pos) tx := ⟨fun ad F H s σ Q r t => ww_of (pw_or1 pt_wt) (h.run ad F H s σ Q r t)⟩
theorem ew_and (h : ET X B a tx) (h2 : EW X B (.BoolOp .And (b :: es) pos) ty) : EW X B (.BoolOp .And (a :: b :: es) pos) (andA tx ty) := ⟨fun ad F H s σ Q r t => ww_of (pw_and pt_wt pw_ww) ((h.run ad F H s σ _ r t).imp fun c H1 q => by
  obtain ⟨ad1, F1, s1, e1, k1, r1, q⟩ := q
  cases c with
  | true =>
    refine iteT ?_
    rw [if_pos rfl] at q
    intro whole pins s' I
    exact thn (h2.run ad1 F1 H1 s1 σ Q r1 q whole pins s' I) fun z s2 ⟨H', I', p⟩ => ⟨H', I', p.up e1 k1⟩
  | false => exact iteF ⟨ad1, F1, s1, e1, k1, r1, q⟩)⟩
theorem ew_or (h : ET X B a tx) (h2 : EW X B (.BoolOp .Or (b :: es) pos) ty) : EW X B (.BoolOp .Or (a :: b :: es) pos) (orA tx ty) := ⟨fun ad F H s σ Q r t => ww_of (pw_or pt_wt pw_ww) ((h.run ad F H s σ _ r t).imp fun c H1 q => by
  obtain ⟨ad1, F1, s1, e1, k1, r1, q⟩ := q
  cases c with
  | true => exact iteT ⟨ad1, F1, s1, e1, k1, r1, q⟩
  | false =>
    refine iteF ?_
    intro whole pins s' I
    exact thn (h2.run ad1 F1 H1 s1 σ Q r1 q whole pins s' I) fun z s2 ⟨H', I', p⟩ => ⟨H', I', p.up e1 k1⟩)⟩
/-- and, or, not as values -/
def andV (t u : TEA) : TEA := fun s Q => t s fun x s1 => onSome x.bool? fun b => if b = true then u s1 Q else Q (.d (.bool false)) s1
def orV (t u : TEA) : TEA := fun s Q => t s fun x s1 => onSome x.bool? fun b => if b = true then Q (.d (.bool true)) s1 else u s1 Q
def notV (t : TEA) : TEA := fun s Q => t s fun x s1 => onSome x.bool? fun b => Q (.d (.bool (!b))) s1
theorem ea_one {op} (h : EA X B a ta) : EA X B (.BoolOp op [a] pos) ta := ⟨fun ad F H s σ Q r t => we_of (pe_one pe_we) (h.run ad F H s σ Q r t)⟩
theorem ea_and (h : EA X B a ta) (h2 : EA X B (.BoolOp .And (b :: es) pos) tb) : EA X B (.BoolOp .And (a :: b :: es) pos) (andV ta tb) := ⟨fun ad F H s σ Q r t => we_of (pe_and pe_we pe_we) ((h.run ad F H s σ _ r t).imp fun v H1 q => by
  obtain ⟨ad1, F1, x, s1, e1, k1, r1, hv, c, hc, q⟩ := q
  have := AVal.bool?_of hc
  subst this
  refine ⟨c, hv, ?_⟩
  cases c with
  | true =>
    rw [if_pos rfl] at q
    exact iteT ((h2.run ad1 F1 H1 s1 σ Q r1 q).imp fun v H2 p => p.up e1 k1)
  | false => exact iteF ⟨ad1, F1, .d (.bool false), s1, e1, k1, r1, rfl, q⟩)⟩
theorem ea_not (h : EA X B a ta) : EA X B (.UnaryOp .Not a pos) (notV ta) := ⟨fun ad F H s σ Q r t => we_of (pe_not pe_we) ((h.run ad F H s σ _ r t).imp fun v H1 q => by
  obtain ⟨ad1, F1, x, s1, e1, k1, r1, hv, c, hc, q⟩ := q
  have := AVal.bool?_of hc
  subst this
  exact ⟨c, hv, ad1, F1, .d (.bool (!c)), s1, e1, k1, r1, rfl, q⟩)⟩
def ifV (t : TTA) (u w : TEA) : TEA := fun s Q => t s fun b s1 => if b = true then u s1 Q else w s1 Q
/-! ### argument lists, displays -/
def nilL : TLA := fun s Q => Q [] s
def consL (t : TEA) (u : TLA) : TLA := fun s Q => t s fun x s1 => u s1 fun xs s2 => Q (x :: xs) s2
theorem el_nil : EL X B [] nilL := ⟨fun ad F H s σ Q r t => wa_of pa_nil ⟨ad, F, [], s, Ext.refl _, Same.refl _, r, .nil, rfl, t⟩⟩
theorem WA.imp {es : List Expr} {σ : St} {H : Hp} {Q Q' : List V → Hp → Prop} (h : WA X es σ H Q) (q : ∀ v H', Q v H' → Q' v H') : WA X es σ H Q' := fun pos pins s I => thn (h pos pins s I) fun u s' ⟨v, H', I', r, k⟩ => ⟨v, H', I', r, q v H' k⟩
theorem el_cons (h : EA X B e ta) (t : EL X B es tl) (hs : starEach (e :: es) X.env = (false, eval e X.env) :: starEach es X.env := by rfl) : EL X B (e :: es) (consL ta tl) := ⟨fun ad F H s σ Q r t' =>
  wa_of (pa_cons pe_we pa_wa hs) ((h.run ad F H s σ _ r t').imp fun v H1 q => by
    obtain ⟨ad1, F1, x, s1, e1, k1, r1, hv, q⟩ := q
    refine (t.run ad1 F1 H1 s1 σ _ r1 q).imp fun vs H2 q => ?_
    obtain ⟨ad2, F2, xs, s2, e2, k2, r2, hvs, hln, q⟩ := q
    exact ⟨ad2, F2, x :: xs, s2, e1.trans e2, k1.trans k2, r2, .cons (hv.mono e2 k2) hvs, by simp [hln], q⟩)⟩
/-- items that are told for good -/
def datas : List AVal → Option (List PyData)
  | [] => some []
  | .d x :: xs => (datas xs).map (x :: ·)
  | .r _ :: _ => none
  | .s _ _ :: _ => none
  | .a _ _ _ :: _ => none
theorem datas_ok : ∀ {xs : List AVal} {vs : List V} {ds : List PyData}, Paired (VOk ad F) xs vs → datas xs = some ds → DaAll F ds vs
  | [], _, _, .nil, e => by cases e; rfl
  | .d x :: xs, _, ds, .cons h t, e => by
    unfold datas at e
    cases h2 : datas xs with
    | none => rw [h2] at e; cases e
    | some r => rw [h2] at e; cases e; exact daAll_cons h (datas_ok t h2)
  | .r _ :: _, _, _, _, e => by cases e
  | .s _ _ :: _, _, _, _, e => by cases e
  | .a _ _ _ :: _, _, _, _, e => by cases e
def lstN (t : TLA) : TNA := fun s Q => t s fun xs s1 => xs.length ≤ sizeLine ∧ onSome (datas xs) fun ds => Q (.lst ds) s1
theorem Paired.len {α β : Type} {R : α → β → Prop} : ∀ {xs : List α} {ys : List β}, Paired R xs ys → xs.length = ys.length
  | _, _, .nil => rfl
  | _, _, .cons _ t => by simp [Paired.len t]
theorem en_lst (h : EL X B es tl) : EN X B (.List es pos) (lstN tl) := ⟨fun ad F H s σ Q r t => we_of (pe_lst pa_wa) ((h.run ad F H s σ _ r t).imp fun vs H1 q => by
  obtain ⟨ad1, F1, xs, s1, e1, k1, r1, hvs, hln, hz, ds, hds, q⟩ := q
  exact ⟨by rw [← Paired.len hvs]; exact hz, fun p hp => (PostN.here (c := .lst ds) r1 hp ⟨vs, upd_same, datas_ok hvs hds⟩ rfl q).up e1 k1⟩)⟩
def tupA (t : TLA) : TEA := fun s Q => t s fun xs s1 => xs.length ≤ sizeLine ∧ onSome (datas xs) fun ds => Q (.d (.tuple ds)) s1
theorem ea_tup {x1} (h : EL X B es tl) : EA X B (.Tuple es x1 pos) (tupA tl) := ⟨fun ad F H s σ Q r t => we_of (pe_tup pa_wa) ((h.run ad F H s σ _ r t).imp fun vs H1 q => by
  obtain ⟨ad1, F1, xs, s1, e1, k1, r1, hvs, hln, hz, ds, hds, q⟩ := q
  refine ⟨by rw [← Paired.len hvs]; exact hz, fun p hp => (Post.newD (d := .tuple ds) r1 hp ⟨p, vs, rfl, upd_same, (datas_ok hvs hds).mono (same_upd (r1.fh.free hp))⟩ q).up e1 k1⟩)⟩
def tupR (t : TLA) : TNA := fun s Q => t s fun xs s1 => xs.length ≤ sizeLine ∧ Q (.nt xs) s1
end
end Kr
/-! layer A3 -/
namespace Kr
open PySem L2
section
variable {B : Bs} {ad ad2 : List Addr} {F H F2 H2 : Hp} {s s2 : AS} {σ σ2 : St}
/-! ## another beginning -/
abbrev Bs.at (ad : List Addr) (F H : Hp) (T : List Addr) : Bs := ⟨ad, F, H, T⟩
theorem Rl.base (r : Rl B ad F H s σ) : Rl (Bs.at ad F H (s.cs.flatMap Cell.ads)) ad F H s σ :=
  ⟨Same.refl _, r.fh, fun _ _ _ _ e => e, fun b hb => hb.elim (fun h => r.mem h) (fun h => (r.inn.fr b h).2), fun b e _ => e, ⟨[], by simp [Bs.at], fun b hb => nomatch hb⟩, r.nd, r.len, r.cel, r.sln, r.slt, ⟨r.inn.nd, r.inn.off, r.inn.fr, fun q hq => .inr (.inl hq), fun b hb => (r.inn.fr b hb).2⟩⟩
theorem Rl.inS (r : Rl B ad F H s σ) {b : Addr} (h : b ∈ ad) : b ∈ B.S ∨ B.H0 b = none := by
  obtain ⟨ad', e', h1⟩ := r.pre
  rw [e'] at h
  exact (List.mem_append.mp h).elim .inl fun z => .inr (h1 b z)
theorem Rl.rebase (r : Rl B ad F H s σ) (q : Rl (Bs.at ad F H (s.cs.flatMap Cell.ads)) ad2 F2 H2 s2 σ2) : Rl B ad2 F2 H2 s2 σ2 := by
  refine ⟨r.ff.trans q.ff, q.fh, fun b o hb ht e => ?_, fun b hb => ?_, fun b e n => ?_, ?_, q.nd, q.len, q.cel, q.sln, q.slt, ⟨q.inn.nd, q.inn.off, q.inn.fr, fun x hx => ?_, r.inn.old⟩⟩
  · refine q.hh b o (fun z => ?_) (fun z => ?_) (r.hh b o hb ht e)
    · rcases r.inS z with z | z
      · exact hb z
      · rw [z] at e; cases e
    · rcases r.inn.own b z with z | z | z
      · exact hb z
      · exact ht z
      · rw [z] at e; cases e
  · exact q.there (r.al b hb)
  · exact q.new b (r.new b e n) (r.there n)
  · obtain ⟨ad', e', h1⟩ := r.pre
    obtain ⟨ad3, e3, h3⟩ := q.pre
    refine ⟨ad' ++ ad3, by rw [e3]; show ad ++ ad3 = _; rw [e', List.append_assoc], fun b hb => ?_⟩
    rcases List.mem_append.mp hb with hb | hb
    · exact h1 b hb
    · exact (r.fresh (h3 b hb)).1
  · rcases q.inn.own x hx with z | z | z
    · exact (r.inS z).elim .inl fun z => .inr (.inr z)
    · exact r.inn.own x z
    · exact .inr (.inr (r.fresh z).1)
theorem Rl.ext {T : List Addr} (q : Rl (Bs.at ad F H T) ad2 F2 H2 s2 σ2) : Ext ad ad2 ∧ Same F F2 := ⟨let ⟨ad3, e3, _⟩ := q.pre; ⟨ad3, e3⟩, q.ff⟩
/-- a higher floor of what is told -/
abbrev Bs.fl (B : Bs) (F : Hp) : Bs := ⟨B.S, F, B.H0, B.T⟩
theorem Rl.floor (r : Rl B ad F H s σ) : Rl (B.fl F) ad F H s σ :=
  ⟨Same.refl _, r.fh, r.hh, r.al, fun b e _ => e, r.pre, r.nd, r.len, r.cel, r.sln, r.slt, ⟨r.inn.nd, r.inn.off, r.inn.fr, r.inn.own, r.inn.old⟩⟩
theorem Rl.unfloor (r : Rl B ad F H s σ) (q : Rl (B.fl F) ad2 F2 H2 s2 σ2) : Rl B ad2 F2 H2 s2 σ2 :=
  ⟨r.ff.trans q.ff, q.fh, q.hh, q.al, fun b e n => q.new b (r.new b e n) n, q.pre, q.nd, q.len, q.cel, q.sln, q.slt, ⟨q.inn.nd, q.inn.off, q.inn.fr, q.inn.own, q.inn.old⟩⟩
/-- other slots than those spoken of -/
theorem Rl.back {sl : List (Option AVal)} {cs : List Cell} {B2 : Bs} (r : Rl B2 ad F H ⟨sl, cs⟩ σ) (q : Rl B ad2 F2 H2 s2 σ2) (e : Ext ad ad2) (k : Same F F2) : Rl B ad2 F2 H2 ⟨sl, s2.cs⟩ σ :=
  ⟨q.ff, q.fh, q.hh, q.al, q.new, q.pre, q.nd, q.len, q.cel, r.sln, fun j x h => by
    obtain ⟨v, h1, h2⟩ := r.slt j x h
    exact ⟨v, h1, h2.mono e k⟩, q.inn⟩
/-- a cell that is none of ours stays -/
theorem Rl.aside {p : Addr} {o : HO} {T : List Addr} (q : Rl (Bs.at ad F H T) ad2 F2 H2 s2 σ2) (hp : p ∉ ad) (hT : p ∉ T) (ho : H p = some o) (hF : F p = none) : H2 p = some o ∧ F2 p = none ∧ p ∉ ad2 ∧ p ∉ s2.cs.flatMap Cell.ads := by
  refine ⟨q.hh p o hp hT ho, q.new p hF (ne_none ho), fun z => ?_, fun z => ?_⟩
  · obtain ⟨ad3, e3, h3⟩ := q.pre
    rw [e3] at z
    rcases List.mem_append.mp z with z | z
    · exact hp z
    · have : H p = none := h3 p z
      rw [ho] at this; cases this
  · rcases q.inn.own p z with z | z | z
    · exact hp z
    · exact hT z
    · have z : H p = none := z
      rw [ho] at z; cases z
end
/-! ## slots that a target sets -/
def Keeps (ks : List Nat) (σ σ2 : St) : Prop := σ2.length = σ.length ∧ ∀ j, j ∉ ks → σ2[j]? = σ[j]?
theorem Keeps.refl (σ : St) : Keeps [] σ σ := ⟨rfl, fun _ _ => rfl⟩
theorem Keeps.set (σ : St) (k : Nat) (v : Option V) : Keeps [k] σ (σ.set k v) := ⟨by simp, fun j hj => List.getElem?_set_ne (fun z => hj (by simp [z]))⟩
theorem Keeps.trans {ks ls : List Nat} {σ σ1 σ2 : St} (a : Keeps ks σ σ1) (b : Keeps ls σ1 σ2) : Keeps (ks ++ ls) σ σ2 := ⟨b.1.trans a.1, fun j hj => (b.2 j fun z => hj (List.mem_append_right _ z)).trans (a.2 j fun z => hj (List.mem_append_left _ z))⟩
theorem wipe_get (σ : St) : ∀ (vs : List Nat) (j : Nat), (wipe σ vs)[j]? = if j ∈ vs then (σ[j]?).map (fun _ => none) else σ[j]?
  | [], j => by simp [wipe]
  | v :: vs, j => by
    show ((wipe σ vs).set v none)[j]? = _
    by_cases hj : j = v
    · subst hj
      rw [if_pos (List.mem_cons_self ..)]
      by_cases hl : j < σ.length
      · rw [List.getElem?_set_self (by rw [wipe_length]; exact hl), List.getElem?_eq_getElem hl]; rfl
      · rw [List.getElem?_eq_none (by simp [wipe_length]; omega), List.getElem?_eq_none (by omega)]; rfl
    · rw [List.getElem?_set_ne (fun z => hj z.symm), wipe_get σ vs j]
      by_cases hm : j ∈ vs
      · rw [if_pos hm, if_pos (List.mem_cons_of_mem _ hm)]
      · rw [if_neg hm, if_neg (by simp [hj, hm])]
theorem wipe_keeps {ks vs : List Nat} {σ σ2 : St} (h : Keeps ks (wipe σ vs) σ2) (hs : ∀ k ∈ ks, k ∈ vs) : wipe σ2 vs = wipe σ vs := by
  apply List.ext_getElem?
  intro j
  rw [wipe_get σ2 vs j, wipe_get σ vs j]
  have hl : σ2.length = σ.length := h.1.trans (wipe_length σ vs)
  by_cases hj : j ∈ vs
  · rw [if_pos hj, if_pos hj]
    by_cases hlt : j < σ.length
    · rw [List.getElem?_eq_getElem hlt, List.getElem?_eq_getElem (by omega)]; rfl
    · rw [List.getElem?_eq_none (by omega), List.getElem?_eq_none (by omega)]
  · rw [if_neg hj, if_neg hj, h.2 j (fun z => hj (hs j z)), wipe_get σ vs j, if_neg hj]
def wipeA (sl : List (Option AVal)) : List Nat → List (Option AVal)
  | [] => sl
  | v :: vs => (wipeA sl vs).set v none
theorem wipeA_length (sl : List (Option AVal)) : ∀ vs : List Nat, (wipeA sl vs).length = sl.length
  | [] => rfl
  | v :: vs => by simp [wipeA, wipeA_length sl vs]
theorem wipeA_get {sl : List (Option AVal)} : ∀ {vs : List Nat} {j : Nat} {x : AVal}, (wipeA sl vs)[j]? = some (some x) → sl[j]? = some (some x) ∧ j ∉ vs
  | [], j, x, h => ⟨h, (fun z => nomatch z)⟩
  | v :: vs, j, x, h => by
    have h' : ((wipeA sl vs).set v none)[j]? = some (some x) := h
    by_cases hj : j = v
    · subst hj
      rw [List.getElem?_set] at h'
      simp at h'
    · rw [List.getElem?_set_ne (fun z => hj z.symm)] at h'
      obtain ⟨h1, h2⟩ := wipeA_get h'
      exact ⟨h1, fun z => by
        rcases List.mem_cons.mp z with z | z
        · exact hj z
        · exact h2 z⟩
theorem Rl.wipe {B : Bs} {ad : List Addr} {F H : Hp} {sl : List (Option AVal)} {cs : List Cell} {σ : St} (r : Rl B ad F H ⟨sl, cs⟩ σ) (vs : List Nat) : Rl B ad F H ⟨wipeA sl vs, cs⟩ (wipe σ vs) :=
  ⟨r.ff, r.fh, r.hh, r.al, r.new, r.pre, r.nd, r.len, r.cel, by show (wipeA sl vs).length = _; rw [wipeA_length, wipe_length]; exact r.sln, fun j x h => by
    obtain ⟨h1, h2⟩ := wipeA_get h
    obtain ⟨v, h3, h4⟩ := r.slt j x h1
    exact ⟨v, by rw [wipe_get, if_neg h2]; exact h3, h4⟩, r.inn⟩
/-! ## targets -/
structure GT (X : Cx) (tg : Expr) (ks : List Nat) (t : TGA) : Prop where
  run : ∀ B ad F H s σ x v Q, Rl B ad F H s σ → VOk ad F x v → t x s Q → WG X tg v σ H fun σ2 H2 => H2 = H ∧ Keeps ks σ σ2 ∧ ∃ s2, Rl B ad F H s2 σ2 ∧ Q s2
def nameG (k : Nat) : TGA := fun x s Q => Q ⟨s.sl.set k (some x), s.cs⟩
def tupOf (s : AS) : AVal → Option (List AVal)
  | .d (.tuple ds) => some (ds.map .d)
  | .d (.list ds) => some (ds.map .d)
  | .r n => match s.cs[n]? with
    | some (.nt xs) => some xs
    | some (.nl xs) => some xs
    | some (.lst ds) => some (ds.map .d)
    | some (.fz (.tuple ds)) => some (ds.map .d)
    | some (.fz (.list ds)) => some (ds.map .d)
    | _ => none
  | _ => none
section
variable {X : Cx} {tg t1 t2 t3 : Expr} {ks ks1 ks2 ks3 : List Nat} {g1 g2 g3 : TGA} {pos : Pos}
theorem WG.mono2 {v : V} {σ : St} {H : Hp} {Q Q' : St → Hp → Prop} (h : WG X tg v σ H Q) (k : ∀ σ' H', Q σ' H' → Q' σ' H') : WG X tg v σ H Q' := WG.mono k h
theorem gt_name (k : Nat) {x : Str} (hN : X.N.Nodup) (hi : X.N[k]? = some x := by rfl) (hx : Loc X.env.scope x := by first | exact .inl rfl | exact .inr rfl) (hf : X.fn x = true ∨ X.env.scope.names.lookup x = some .local := by first | exact .inl rfl | exact .inr rfl) : GT X (.Name x pos) [k] (nameG k) :=
  ⟨fun B ad F H s σ x v Q r hv t => wg_name k hN ⟨rfl, Keeps.set _ _ _, _, r.set hv, t⟩ hi hx hf⟩
theorem pairedD {ad : List Addr} {F : Hp} : ∀ {ds : List PyData} {vs : List V}, DaAll F ds vs → Paired (VOk ad F) (ds.map .d) vs
  | [], _, h => by obtain rfl := (show _ = [] from h); exact .nil
  | d :: ds, _, h => by
    obtain ⟨v, r, rfl, h1, h2⟩ := (show ∃ v r, _ = v :: r ∧ Da F d v ∧ DaAll F ds r from h)
    exact .cons h1 (pairedD h2)
theorem VOk.tup {B : Bs} {ad : List Addr} {F H : Hp} {s : AS} {σ : St} {x : AVal} {v : V} {xs : List AVal} (r : Rl B ad F H s σ) (h : VOk ad F x v) (e : tupOf s x = some xs) : ∃ l vs, v = .ref l ∧ (H l = some (.tup vs) ∨ H l = some (.lst vs)) ∧ Paired (VOk ad F) xs vs := by
  unfold tupOf at e
  split at e
  · cases e
    obtain ⟨a, xs, rfl, h1, h2⟩ := h
    exact ⟨a, xs, rfl, .inl (r.fh _ _ h1), pairedD h2⟩
  · cases e
    obtain ⟨a, xs, rfl, h1, h2⟩ := h
    exact ⟨a, xs, rfl, .inr (r.fh _ _ h1), pairedD h2⟩
  · rename_i n
    obtain ⟨a, h1, rfl⟩ := h
    split at e
    · rename_i ds' hc
      cases e
      obtain ⟨_, _, vs, h2, h3⟩ := r.cel n a _ h1 hc
      exact ⟨a, vs, rfl, .inl h2, h3⟩
    · rename_i ds' hc
      cases e
      obtain ⟨_, _, vs, h2, h3⟩ := r.cel n a _ h1 hc
      exact ⟨a, vs, rfl, .inr h2, h3⟩
    · rename_i ds' hc
      cases e
      obtain ⟨_, _, vs, h2, h3⟩ := r.cel n a _ h1 hc
      exact ⟨a, vs, rfl, .inr h2, pairedD h3⟩
    · rename_i ds' hc
      cases e
      obtain ⟨_, _, h4⟩ := r.cel n a _ h1 hc
      obtain ⟨a', xs, e', h2, h3⟩ := h4
      cases e'
      exact ⟨a, xs, rfl, .inl (r.fh _ _ h2), pairedD h3⟩
    · rename_i ds' hc
      cases e
      obtain ⟨_, _, h4⟩ := r.cel n a _ h1 hc
      obtain ⟨a', xs, e', h2, h3⟩ := h4
      cases e'
      exact ⟨a, xs, rfl, .inr (r.fh _ _ h2), pairedD h3⟩
    · cases e
  · cases e
theorem wg_unp {X : Cx} {es : List Expr} {k n : Nat} {t : TGs} {pos : Pos} {l : Addr} {vs : List V} {σ : St} {H : Hp} {Q : St → Hp → Prop} (hc : X.calm = true) (h : PGs X es t) (hn : (assignEach es X.env).length = n) (hst : (assignEach es X.env).findIdx? (·.1) = none) (hl : H l = some (.tup vs) ∨ H l = some (.lst vs)) (hv : vs.length = n) (q : t vs σ H Q) : WG X (.Tuple es k pos) (.ref l) σ H Q := by
  rcases hl with hl | hl
  · exact wg_of (pg_tup hc h hn hst) ⟨l, vs, rfl, SqT.of hl, hv, q⟩
  · exact wg_of (pg_lst hc h hn hst) ⟨l, vs, rfl, SqL.of hl, hv, q⟩
def tup2G (g1 g2 : TGA) : TGA := fun x s Q => onSome (tupOf s x) fun xs => match xs with
  | [x1, x2] => g1 x1 s fun s1 => g2 x2 s1 Q
  | _ => False
def tup3G (g1 g2 g3 : TGA) : TGA := fun x s Q => onSome (tupOf s x) fun xs => match xs with
  | [x1, x2, x3] => g1 x1 s fun s1 => g2 x2 s1 fun s2 => g3 x3 s2 Q
  | _ => False
theorem gt_tup2 {k : Nat} (hc : X.calm = true) (h1 : GT X t1 ks1 g1) (h2 : GT X t2 ks2 g2)
    (hs : (assignEach [t1, t2] X.env).map (·.2) = assign t1 X.env :: (assignEach [t2] X.env).map (·.2) := by rfl) (hs2 : (assignEach [t2] X.env).map (·.2) = assign t2 X.env :: (assignEach [] X.env).map (·.2) := by rfl)
    (hn : (assignEach [t1, t2] X.env).length = 2 := by rfl) (hst : (assignEach [t1, t2] X.env).findIdx? (·.1) = none := by rfl) : GT X (.Tuple [t1, t2] k pos) (ks1 ++ ks2) (tup2G g1 g2) := ⟨fun B ad F H s σ x v Q r hv t => by
  obtain ⟨xs, hx, t⟩ := t
  obtain ⟨l, vs, rfl, hl, hp⟩ := hv.tup r hx
  match xs, vs, hp, t with
  | [x1, x2], _, .cons (b := v1) p1 (.cons (b := v2) p2 .nil), t =>
    refine wg_unp hc (pgs_cons pg_wg (pgs_cons pg_wg pgs_nil hs2) hs) hn hst hl rfl ⟨v1, [v2], rfl, ?_⟩
    refine (h1.run B ad F H s σ x1 v1 _ r p1 t).mono2 ?_
    rintro σ1 H1 ⟨rfl, k1, s1, r1, t1⟩
    refine ⟨v2, [], rfl, (h2.run B ad F H1 s1 σ1 x2 v2 _ r1 p2 t1).mono2 ?_⟩
    rintro σ2 H2 ⟨rfl, k2, s2, r2, t2⟩
    exact ⟨rfl, rfl, k1.trans k2, s2, r2, t2⟩⟩
theorem gt_tup3 {k : Nat} (hc : X.calm = true) (h1 : GT X t1 ks1 g1) (h2 : GT X t2 ks2 g2) (h3 : GT X t3 ks3 g3)
    (hs : (assignEach [t1, t2, t3] X.env).map (·.2) = assign t1 X.env :: (assignEach [t2, t3] X.env).map (·.2) := by rfl) (hs2 : (assignEach [t2, t3] X.env).map (·.2) = assign t2 X.env :: (assignEach [t3] X.env).map (·.2) := by rfl) (hs3 : (assignEach [t3] X.env).map (·.2) = assign t3 X.env :: (assignEach [] X.env).map (·.2) := by rfl)
    (hn : (assignEach [t1, t2, t3] X.env).length = 3 := by rfl) (hst : (assignEach [t1, t2, t3] X.env).findIdx? (·.1) = none := by rfl) : GT X (.Tuple [t1, t2, t3] k pos) (ks1 ++ (ks2 ++ ks3)) (tup3G g1 g2 g3) := ⟨fun B ad F H s σ x v Q r hv t => by
  obtain ⟨xs, hx, t⟩ := t
  obtain ⟨l, vs, rfl, hl, hp⟩ := hv.tup r hx
  match xs, vs, hp, t with
  | [x1, x2, x3], _, .cons (b := v1) p1 (.cons (b := v2) p2 (.cons (b := v3) p3 .nil)), t =>
    refine wg_unp hc (pgs_cons pg_wg (pgs_cons pg_wg (pgs_cons pg_wg pgs_nil hs3) hs2) hs) hn hst hl rfl ⟨v1, [v2, v3], rfl, ?_⟩
    refine (h1.run B ad F H s σ x1 v1 _ r p1 t).mono2 ?_
    rintro σ1 H1 ⟨rfl, k1, s1, r1, t1⟩
    refine ⟨v2, [v3], rfl, (h2.run B ad F H1 s1 σ1 x2 v2 _ r1 p2 t1).mono2 ?_⟩
    rintro σ2 H2 ⟨rfl, k2, s2, r2, t2⟩
    refine ⟨v3, [], rfl, (h3.run B ad F H2 s2 σ2 x3 v3 _ r2 p3 t2).mono2 ?_⟩
    rintro σ3 H3 ⟨rfl, k3, s3, r3, t3⟩
    exact ⟨rfl, rfl, k1.trans (k2.trans k3), s3, r3, t3⟩⟩
end
/-! ## statements -/
def nextA : TSA := fun D s => D.nx s
def seqA (t u : TSA) : TSA := fun D s => t { D with nx := u D } s
def setA (k : Nat) (te : TEA) : TSA := fun D s => te s fun x s1 => D.nx ⟨s1.sl.set k (some x), s1.cs⟩
def dropA (te : TEA) : TSA := fun D s => te s fun _ s1 => D.nx s1
def retA (te : TEA) : TSA := fun D s => te s D.rt
def retN : TSA := fun D s => D.rt (.d .none) s
def ifA (c : TTA) (t u : TSA) : TSA := fun D s => c s fun b s1 => if b = true then t D s1 else u D s1
def asgA (te : TEA) (g : TGA) : TSA := fun D s => te s fun x s1 => g x s1 D.nx
/-- fewer slots and cells are spoken of -/
def AVal.lt (n : Nat) : AVal → Prop
  | .r k => k < n
  | _ => True
def Cell.lt (n : Nat) : Cell → Prop
  | .nl xs => ∀ x ∈ xs, x.lt n
  | .nt xs => ∀ x ∈ xs, x.lt n
  | .nd kvs => ∀ p ∈ kvs, p.2.lt n
  | _ => True
structure Wk0 (m : Nat) (s s2 : AS) : Prop where
  ln : s2.sl.length = s.sl.length
  sl : ∀ (k : Nat) (x : AVal), s2.sl[k]? = some (some x) → s.sl[k]? = some (some x) ∧ x.lt s2.cs.length
  cs : ∃ more, s.cs = s2.cs ++ more
  lt : ∀ c ∈ s2.cs, c.lt s2.cs.length
  m : m ≤ s2.cs.length
theorem VOk.take {ad : List Addr} {F : Hp} {x : AVal} {v : V} {n : Nat} (h : VOk ad F x v) (hx : x.lt n) : VOk (ad.take n) F x v := by
  cases x with
  | d x => exact h
  | r k => obtain ⟨a, h1, h2⟩ := h; exact ⟨a, by rw [List.getElem?_take_of_lt hx]; exact h1, h2⟩
  | s K ns => exact h
  | a p k pt => exact h
theorem Paired.impMem {α β : Type} {R S : α → β → Prop} : ∀ {xs : List α} {ys : List β}, Paired R xs ys → (∀ x y, x ∈ xs → R x y → S x y) → Paired S xs ys
  | _, _, .nil, _ => .nil
  | _, _, .cons h t, k => .cons (k _ _ (List.mem_cons_self ..) h) (Paired.impMem t fun x y hx => k x y (List.mem_cons_of_mem _ hx))
theorem COk.take {ad : List Addr} {F H : Hp} {p : Addr} {c : Cell} {n : Nat} (h : COk ad F H p c) (hc : c.lt n) : COk (ad.take n) F H p c := by
  cases c with
  | nl xs => obtain ⟨vs, h1, h2⟩ := h; exact ⟨vs, h1, Paired.impMem h2 fun x y hx h => h.take (hc x hx)⟩
  | nt xs => obtain ⟨vs, h1, h2⟩ := h; exact ⟨vs, h1, Paired.impMem h2 fun x y hx h => h.take (hc x hx)⟩
  | nd xs => obtain ⟨vs, h1, h2⟩ := h; exact ⟨vs, h1, Paired.impMem h2 fun x y hx h => ⟨h.1, h.2.take (hc x hx)⟩⟩
  | _ => exact h
theorem Inn.take {B : Bs} {ad : List Addr} {F H : Hp} {cs cs2 more : List Cell} (r : Inn B ad F H cs) (e : cs = cs2 ++ more) : Inn B (ad.take cs2.length) F H cs2 := by
  subst e
  have sub : ∀ q, q ∈ cs2.flatMap Cell.ads → q ∈ (cs2 ++ more).flatMap Cell.ads := fun q hq => by rw [List.flatMap_append]; exact List.mem_append_left _ hq
  refine ⟨r.nd.sublist (by rw [List.flatMap_append]; exact List.sublist_append_left ..), fun q hq i hi => ?_, fun q hq => r.fr q (sub q hq), fun q hq => r.own q (sub q hq), r.old⟩
  have hl : i < cs2.length := by
    have := (List.getElem?_eq_some_iff.mp hi).1
    rw [List.length_take] at this
    omega
  rw [List.getElem?_take_of_lt hl] at hi
  have := r.off q (sub q hq) i hi
  rw [List.getElem?_append_left hl] at this
  exact this
theorem Rl.weak {B : Bs} {ad : List Addr} {F H : Hp} {s s2 : AS} {σ : St} (r : Rl B ad F H s σ) (w : Wk0 B.S.length s s2) : Rl B (ad.take s2.cs.length) F H s2 σ := by
  obtain ⟨more, em⟩ := w.cs
  have hle : s2.cs.length ≤ ad.length := by rw [r.len, em]; simp
  refine ⟨r.ff, r.fh, r.hh, r.al, r.new, ?_, r.nd.sublist (List.take_sublist _ _), by rw [List.length_take]; omega, fun i p c h1 h2 => ?_, w.ln.trans r.sln, fun k x h => ?_, r.inn.take em⟩
  · obtain ⟨ad', e, h1⟩ := r.pre
    refine ⟨ad'.take (s2.cs.length - B.S.length), ?_, fun b hb => h1 b (List.mem_of_mem_take hb)⟩
    rw [e, List.take_append, List.take_of_length_le w.m]
  · have hi : i < s2.cs.length := (List.getElem?_eq_some_iff.mp h2).1
    rw [List.getElem?_take_of_lt hi] at h1
    obtain ⟨n, l, ok⟩ := r.cel i p c h1 (by rw [em, List.getElem?_append_left hi]; exact h2)
    exact ⟨n, l, ok.take (w.lt c (List.mem_of_getElem? h2))⟩
  · obtain ⟨h1, h2⟩ := w.sl k x h
    obtain ⟨v, h3, h4⟩ := r.slt k x h1
    exact ⟨v, h3, h4.take h2⟩
def AVal.nor : AVal → Bool
  | .r _ => false
  | _ => true
theorem VOk.nor {ad ad' : List Addr} {F : Hp} {x : AVal} {v : V} (h : VOk ad F x v) (hx : x.nor = true) : VOk ad' F x v := by
  cases x with
  | r _ => cases hx
  | d _ => exact h
  | s _ _ => exact h
  | a _ _ _ => exact h
def Cell.flat : Cell → Bool
  | .nl xs => xs.all AVal.nor
  | .nt _ => false
  | .nd _ => false
  | .dl _ _ _ => false
  | _ => true
theorem COk.flat {ad ad' : List Addr} {F H : Hp} {p : Addr} {c : Cell} (h : COk ad F H p c) (hc : c.flat = true) : COk ad' F H p c := by
  cases c with
  | nl xs => obtain ⟨vs, h1, h2⟩ := h; exact ⟨vs, h1, Paired.impMem h2 fun x y hx h => h.nor (List.all_eq_true.mp hc x hx)⟩
  | nt _ => cases hc
  | nd _ => cases hc
  | _ => exact h
def subC (cs : List Cell) : List Nat → Option (List Cell)
  | [] => some []
  | n :: ns => (cs[n]?).bind fun c => (subC cs ns).map (c :: ·)
theorem subC_ok {cs : List Cell} : ∀ {ns : List Nat} {ds : List Cell}, subC cs ns = some ds → ds.length = ns.length ∧ ∀ (j : Nat) n, ns[j]? = some n → ds[j]? = cs[n]? ∧ n < cs.length
  | [], ds, h => by cases h; exact ⟨rfl, fun j n h => by simp at h⟩
  | n :: ns, ds, h => by
    have h' : (cs[n]?).bind (fun c => (subC cs ns).map (c :: ·)) = some ds := h
    cases hc : cs[n]? with
    | none => rw [hc] at h'; cases h'
    | some c =>
      rw [hc] at h'
      cases hs : subC cs ns with
      | none => rw [hs] at h'; cases h'
      | some es =>
        rw [hs] at h'
        cases h'
        obtain ⟨h1, h2⟩ := subC_ok hs
        refine ⟨by simp [h1], fun j m hj => ?_⟩
        cases j with
        | zero =>
          have : n = m := by simpa using hj
          subst this
          exact ⟨by simp [hc], (List.getElem?_eq_some_iff.mp hc).1⟩
        | succ j => simpa using h2 j m (by simpa using hj)
theorem sublist_flatMap {cs ds : List Cell} (h : cs.Sublist ds) : (cs.flatMap Cell.ads).Sublist (ds.flatMap Cell.ads) := by
  induction h with
  | slnil => exact List.Sublist.refl _
  | cons a h ih => rw [List.flatMap_cons]; exact ih.trans (List.sublist_append_right _ _)
  | cons_cons a h ih => rw [List.flatMap_cons, List.flatMap_cons]; exact List.Sublist.append (List.Sublist.refl _) ih
theorem flat_nd {cs : List Cell} : (cs.flatMap Cell.ads).Nodup ↔ (∀ (i : Nat) c, cs[i]? = some c → c.ads.Nodup) ∧ ∀ (i j : Nat) c d q, cs[i]? = some c → cs[j]? = some d → q ∈ c.ads → q ∈ d.ads → i = j := by
  rw [List.nodup_iff_pairwise_ne, List.pairwise_flatMap, List.pairwise_iff_getElem]
  constructor
  · rintro ⟨h1, h2⟩
    refine ⟨fun i c hc => List.nodup_iff_pairwise_ne.mpr (h1 c (List.mem_of_getElem? hc)), fun i j c d q hc hd hqc hqd => ?_⟩
    obtain ⟨li, ei⟩ := List.getElem?_eq_some_iff.mp hc
    obtain ⟨lj, ej⟩ := List.getElem?_eq_some_iff.mp hd
    rcases Nat.lt_trichotomy i j with h | h | h
    · exact absurd rfl (h2 i j li lj h q (by rw [ei]; exact hqc) q (by rw [ej]; exact hqd))
    · exact h
    · exact absurd rfl (h2 j i lj li h q (by rw [ej]; exact hqd) q (by rw [ei]; exact hqc))
  · rintro ⟨h1, h2⟩
    refine ⟨fun c hc => ?_, fun i j li lj hij x hx y hy e => ?_⟩
    · obtain ⟨i, hi⟩ := List.mem_iff_getElem?.mp hc
      exact List.nodup_iff_pairwise_ne.mp (h1 i c hi)
    · subst e
      have := h2 i j _ _ x (List.getElem?_eq_getElem li) (List.getElem?_eq_getElem lj) hx hy
      omega
/-- cells taken out, the first ones in their place -/
def partQ (m : Nat) (ns : List Nat) : AVal → AVal
  | .r n => if n < m then .r n else .r (m + ns.idxOf n)
  | .a p n pt => if n < m then .a p n pt else .a p (m + ns.idxOf n) pt
  | x => x
def hasR (m : Nat) (ns : List Nat) : AVal → Prop
  | .r n => n < m ∨ n ∈ ns
  | _ => True
structure Wq (m : Nat) (s s2 : AS) : Prop where
  ln : s2.sl.length = s.sl.length
  mm : m ≤ s.cs.length
  pk : ∃ ns new, ns.Nodup ∧ (∀ n ∈ ns, m ≤ n) ∧ subC s.cs ns = some new ∧ s2.cs = s.cs.take m ++ new ∧ (∀ c ∈ s2.cs, c.flat = true) ∧ ∀ (k : Nat) (x : AVal), s2.sl[k]? = some (some x) → ∃ y, s.sl[k]? = some (some y) ∧ x = partQ m ns y ∧ hasR m ns y
theorem Rl.pick {B : Bs} {ad : List Addr} {F H : Hp} {s s2 : AS} {σ : St} (r : Rl B ad F H s σ) (w : Wq B.S.length s s2) : ∃ ad', Rl B ad' F H s2 σ := by
  obtain ⟨hln, hmm, ns, new, nd, hn, hs, ecs, hf, hsl⟩ := w
  obtain ⟨sl2, cs2⟩ := s2
  simp only at ecs
  subst ecs
  obtain ⟨h1, h2⟩ := subC_ok hs
  obtain ⟨n1, n2⟩ := flat_nd.mp r.inn.nd
  obtain ⟨ad', e, hpre⟩ := r.pre
  have hl : B.S.length ≤ s.cs.length := hmm
  have ex0 : ∀ ms : List Nat, (∀ n ∈ ms, n < ad.length) → ∃ ex : List Addr, ex.length = ms.length ∧ ∀ (j : Nat) n, ms[j]? = some n → ex[j]? = ad[n]? := by
    intro ms
    induction ms with
    | nil => intro _; exact ⟨[], rfl, fun j n h => by simp at h⟩
    | cons m ms ih =>
      intro h
      obtain ⟨a', l', e'⟩ := ih fun n hn => h n (List.mem_cons_of_mem _ hn)
      have hm := h m (List.mem_cons_self ..)
      refine ⟨ad[m] :: a', by simp [l'], fun j n hj => ?_⟩
      cases j with
      | zero =>
        have : m = n := by simpa using hj
        subst this
        simp [List.getElem?_eq_getElem hm]
      | succ j => simpa using e' j n (by simpa using hj)
  have hlt : ∀ n ∈ ns, n < ad.length := fun n hn => by
    obtain ⟨j, hj⟩ := List.mem_iff_getElem?.mp hn
    rw [r.len]; exact (h2 j n hj).2
  obtain ⟨ex, lx, hx⟩ := ex0 ns hlt
  refine ⟨B.S ++ ex, ?_⟩
  have from' : ∀ i, i < B.S.length + ns.length → ∃ i', (B.S ++ ex)[i]? = ad[i']? ∧ (s.cs.take B.S.length ++ new)[i]? = s.cs[i']? ∧ ((i < B.S.length ∧ i' = i) ∨ (B.S.length ≤ i ∧ ns[i - B.S.length]? = some i')) := by
    intro i hi
    by_cases him : i < B.S.length
    · refine ⟨i, ?_, ?_, .inl ⟨him, rfl⟩⟩
      · rw [List.getElem?_append_left him, e, List.getElem?_append_left him]
      · rw [List.getElem?_append_left (by rw [List.length_take]; omega), List.getElem?_take_of_lt him]
    · have hj : ns[i - B.S.length]? = some (ns[i - B.S.length]'(by omega)) := List.getElem?_eq_getElem (by omega)
      refine ⟨_, ?_, ?_, .inr ⟨by omega, hj⟩⟩
      · rw [List.getElem?_append_right (by omega), hx _ _ hj]
      · rw [List.getElem?_append_right (by rw [List.length_take]; omega), List.length_take, Nat.min_eq_left hl, (h2 _ _ hj).1]
  have inj : ∀ i j i', ((i < B.S.length ∧ i' = i) ∨ (B.S.length ≤ i ∧ ns[i - B.S.length]? = some i')) → ((j < B.S.length ∧ i' = j) ∨ (B.S.length ≤ j ∧ ns[j - B.S.length]? = some i')) → i = j := by
    intro i j i' h h'
    rcases h with ⟨h, e1⟩ | ⟨h, e1⟩ <;> rcases h' with ⟨h', e2⟩ | ⟨h', e2⟩
    · omega
    · have := hn i' (List.mem_of_getElem? e2); omega
    · have := hn i' (List.mem_of_getElem? e1); omega
    · have := (List.getElem?_inj (List.getElem?_eq_some_iff.mp e1).1 nd).mp (e1.trans e2.symm)
      omega
  have lenC : (s.cs.take B.S.length ++ new).length = B.S.length + ns.length := by rw [List.length_append, List.length_take, h1]; omega
  have lenA : (B.S ++ ex).length = B.S.length + ns.length := by rw [List.length_append, lx]
  have look : ∀ (i : Nat) c, (s.cs.take B.S.length ++ new)[i]? = some c → ∃ i', (B.S ++ ex)[i]? = ad[i']? ∧ s.cs[i']? = some c ∧ ((i < B.S.length ∧ i' = i) ∨ (B.S.length ≤ i ∧ ns[i - B.S.length]? = some i')) := fun i c hc => by
    have hi := (List.getElem?_eq_some_iff.mp hc).1
    obtain ⟨i', e1, e2, e3⟩ := from' i (by omega)
    exact ⟨i', e1, by rw [← e2]; exact hc, e3⟩
  have up : ∀ q, q ∈ (s.cs.take B.S.length ++ new).flatMap Cell.ads → q ∈ s.cs.flatMap Cell.ads := fun q hq => by
    obtain ⟨c, hc, hq⟩ := List.mem_flatMap.mp hq
    obtain ⟨i, hi⟩ := List.mem_iff_getElem?.mp hc
    obtain ⟨i', _, e2, _⟩ := look i c hi
    exact mem_ads e2 hq
  refine ⟨r.ff, r.fh, r.hh, r.al, r.new, ⟨ex, rfl, fun b hb => ?_⟩, ?_, by rw [lenA]; exact lenC.symm, fun i p c h3 h4 => ?_, hln.trans r.sln, fun k x h => ?_, ⟨flat_nd.mpr ⟨fun i c hc => ?_, fun i j c d q hc hd hqc hqd => ?_⟩, fun q hq i hi => ?_, fun q hq => r.inn.fr q (up q hq), fun q hq => r.inn.own q (up q hq), r.inn.old⟩⟩
  · obtain ⟨j, hj⟩ := List.mem_iff_getElem?.mp hb
    have hjl := (List.getElem?_eq_some_iff.mp hj).1
    have hj2 : ns[j]? = some (ns[j]'(by omega)) := List.getElem?_eq_getElem (by omega)
    rw [hx j _ hj2, e, List.getElem?_append_right (hn _ (List.mem_of_getElem? hj2))] at hj
    exact hpre b (List.mem_of_getElem? hj)
  · rw [List.nodup_iff_pairwise_ne, List.pairwise_iff_getElem]
    intro i j hi hj hij ee
    obtain ⟨i', a1, _, a3⟩ := from' i (by omega)
    obtain ⟨j', b1, _, b3⟩ := from' j (by omega)
    have g1 : ad[i']? = some (B.S ++ ex)[i] := by rw [← a1]; exact List.getElem?_eq_getElem hi
    have g2 : ad[j']? = some (B.S ++ ex)[i] := by rw [← b1, ee]; exact List.getElem?_eq_getElem hj
    have := nodup_get r.nd g1 g2
    subst this
    have := inj i j i' a3 b3
    omega
  · have h4 : (s.cs.take B.S.length ++ new)[i]? = some c := h4
    obtain ⟨i', e1, e2, _⟩ := look i c h4
    rw [e1] at h3
    obtain ⟨g1, g2, g3⟩ := r.cel i' p c h3 e2
    exact ⟨g1, g2, g3.flat (hf c (List.mem_of_getElem? h4))⟩
  · obtain ⟨y, hy, ex', hr⟩ := hsl k x h
    obtain ⟨v, hv, ok⟩ := r.slt k y hy
    refine ⟨v, hv, ?_⟩
    subst ex'
    cases y with
    | d y => exact ok
    | s _ _ => exact ok
    | a p n pt =>
      show VOk (B.S ++ ex) F (if n < B.S.length then .a p n pt else .a p (B.S.length + ns.idxOf n) pt) v
      split <;> exact ok
    | r n =>
      obtain ⟨a, g1, g2⟩ := ok
      show VOk (B.S ++ ex) F (if n < B.S.length then .r n else .r (B.S.length + ns.idxOf n)) v
      split
      · rename_i hlt
        refine ⟨a, ?_, g2⟩
        rw [e, List.getElem?_append_left hlt] at g1
        rw [List.getElem?_append_left hlt]; exact g1
      · rename_i hlt
        have hmem : n ∈ ns := hr.resolve_left hlt
        have hil := List.idxOf_lt_length_of_mem hmem
        have e2 : ns[ns.idxOf n]? = some n := by rw [List.getElem?_eq_getElem hil, List.getElem_idxOf]
        refine ⟨a, ?_, g2⟩
        rw [List.getElem?_append_right (by omega), Nat.add_sub_cancel_left, hx _ n e2]
        exact g1
  · obtain ⟨i', _, e2, _⟩ := look i c hc
    exact n1 i' c e2
  · obtain ⟨i', _, e2, e3⟩ := look i c hc
    obtain ⟨j', _, f2, f3⟩ := look j d hd
    have := n2 i' j' c d q e2 f2 hqc hqd
    subst this
    exact inj i j i' e3 f3
  · have hil := (List.getElem?_eq_some_iff.mp hi).1
    obtain ⟨i', e1, e2, _⟩ := from' i (by omega)
    rw [e1] at hi
    have := r.inn.off q (up q hq) i' hi
    rw [← e2] at this
    exact this
def Wk (m : Nat) (s s2 : AS) : Prop := Wk0 m s s2 ∨ Wq m s s2
theorem Rl.weakX {B : Bs} {ad : List Addr} {F H : Hp} {s s2 : AS} {σ : St} (r : Rl B ad F H s σ) (w : Wk B.S.length s s2) : ∃ ad', Rl B ad' F H s2 σ := w.elim (fun w => ⟨_, r.weak w⟩) r.pick
section
variable {X : Cx} {B : Bs} {st : Stmt} {rest body orelse : List Stmt} {t u : TSA} {e c : Expr} {te : TEA} {tx : TTA} {pos p : Pos} {x : Str} {g : TGA} {ks : List Nat} {tg : Expr}
theorem ss_nilA : SS X B [] nextA := ⟨fun D s h ad F H σ r => ss_nil ⟨ad, F, s, r, h⟩⟩
theorem ss_consA (h1 : SA X B st t) (h2 : SS X B rest u) : SS X B (st :: rest) (seqA t u) := ⟨fun D s h ad F H σ r => ss_cons (WS.nx (D := liftD B D) (M := fun σ H => ∃ ad F s, Rl B ad F H s σ ∧ u D s) (h1.run { D with nx := u D } s h ad F H σ r) fun σ' H' ⟨ad', F', s', r', h'⟩ => h2.run D s' h' ad' F' H' σ' r')⟩
theorem ss_oneA (h1 : SA X B st t) : SS X B [st] t := ⟨fun D s h ad F H σ r => ss_one (h1.run D s h ad F H σ r)⟩
theorem sa_set (k : Nat) (hN : X.N.Nodup) (he : EA X B e te) (hs : swapsWith e (some (.Name x p)) pos.line X.env = pure false := by rfl) (hi : X.N[k]? = some x := by rfl) (hx : Loc X.env.scope x := by first | exact .inl rfl | exact .inr rfl)
    (hf : X.fn x = true ∨ X.env.scope.names.lookup x = some .local := by first | exact .inl rfl | exact .inr rfl) : SA X B (.Assign [.Name x p] e pos) (setA k te) := ⟨fun D s h ad F H σ r => ws_set k hN ((he.run ad F H s σ _ r h).imp fun v H1 q => by
  obtain ⟨ad1, F1, y, s1, e1, k1, r1, hv, q⟩ := q
  exact ⟨ad1, F1, _, r1.set hv, q⟩) hs hi hx hf⟩
theorem sa_expr (he : EA X B e te) (hs : swapsWith e none pos.line X.env = pure false := by rfl) : SA X B (.Expr e pos) (dropA te) := ⟨fun D s h ad F H σ r => ws_expr ((he.run ad F H s σ _ r h).imp fun v H1 q => by
  obtain ⟨ad1, F1, y, s1, e1, k1, r1, hv, q⟩ := q
  exact ⟨ad1, F1, s1, r1, q⟩) hs⟩
theorem sa_ret (he : EA X B e te) : SA X B (.Return (some e) pos) (retA te) := ⟨fun D s h ad F H σ r => ws_ret ((he.run ad F H s σ _ r h).imp fun v H1 q => by
  obtain ⟨ad1, F1, y, s1, e1, k1, r1, hv, q⟩ := q
  exact ⟨ad1, F1, y, s1, σ, r1, hv, q⟩)⟩
theorem sa_if (hc : ET X B c tx) (h1 : SS X B body t) (h2 : SS X B orelse u) : SA X B (.If c body orelse pos) (ifA tx t u) := ⟨fun D s h ad F H σ r => ws_if ((hc.run ad F H s σ _ r h).imp fun b H1 q => by
  obtain ⟨ad1, F1, s1, e1, k1, r1, q⟩ := q
  cases b with
  | true => rw [if_pos rfl] at q; exact iteT (h1.run D s1 q ad1 F1 H1 σ r1)
  | false => exact iteF (h2.run D s1 q ad1 F1 H1 σ r1))⟩
theorem sa_asg (he : EA X B e te) (hg : GT X tg ks g) (hs : swapsWithSole [tg] e pos.line X.env = pure false := by rfl) (hw : swappedStores [tg] e X.env = pure none := by rfl)
    (h1 : (assignEach [tg] X.env).map (·.2) = [assign tg X.env] := by rfl) : SA X B (.Assign [tg] e pos) (asgA te g) := ⟨fun D s h ad F H σ r => ws_asg ((he.run ad F H s σ _ r h).imp fun v H1 q => by
  obtain ⟨ad1, F1, y, s1, e1, k1, r1, hv, q⟩ := q
  refine (hg.run B ad1 F1 H1 s1 σ y v _ r1 hv q).mono2 ?_
  rintro σ2 H2 ⟨rfl, k2, s2, r2, q2⟩
  exact ⟨ad1, F1, s2, r2, q2⟩) hs hw h1⟩
end
/-! ## what is walked -/
structure IA (X : Cx) (B : Bs) (tg iter : Expr) (t : AS → (List PyData → AS → Prop) → Prop) : Prop where
  run : ∀ ad F H s σ (Q : List PyData → AS → Prop) (R : It → Hp → Prop), Rl B ad F H s σ → t s Q → (∀ J ad2 F2 H2 s2 ds, Ext ad ad2 → Same F F2 → Rl B ad2 F2 H2 s2 σ → Walks J F2 ds → ds.length ≤ sizeLine → Q ds s2 → R J H2) → WI X tg iter σ H R
/-- F may be the floor of a loop's body -/
structure Fl (B : Bs) (F : Hp) : Prop where
  ff : Same B.F0 F
  new : ∀ b, B.F0 b = none → B.H0 b ≠ none → F b = none
theorem Rl.flr {B : Bs} {ad : List Addr} {F H : Hp} {s : AS} {σ : St} (r : Rl B ad F H s σ) : Fl B F := ⟨r.ff, r.new⟩
def forW (m : Nat) (g : TGA) (t : TSA) (D : DA) : List PyData → AS → Prop
  | [], s => D.nx s
  | x :: xs, s => g (.d x) s fun s1 => t ⟨fun s2 => ∃ s3, Wk m s2 s3 ∧ forW m g t D xs s3, D.rt, D.nx, fun s2 => ∃ s3, Wk m s2 s3 ∧ forW m g t D xs s3⟩ s1
def forA (m : Nat) (ti : AS → (List PyData → AS → Prop) → Prop) (g : TGA) (t : TSA) : TSA := fun D s => ti s fun ds s1 => forW m g t D ds s1
section
variable {X : Cx} {B : Bs} {tg iter : Expr} {body : List Stmt} {t : TSA} {ti : AS → (List PyData → AS → Prop) → Prop} {g : TGA} {ks : List Nat} {pos : Pos}
theorem drop_get {α : Type} {l : List α} {i : Nat} {x : α} (h : l[i]? = some x) : l.drop i = x :: l.drop (i + 1) := by
  obtain ⟨hl, e⟩ := List.getElem?_eq_some_iff.mp h
  rw [List.drop_eq_getElem_cons hl, e]
theorem sa_for (hp : PassesOwn (model X.prog X.w) X.A X.env X.xe) (hc : X.calm = true) (hi : IA X B tg iter ti) (hg : GT X tg ks g) (hb : ∀ F, Fl B F → SS X (B.fl F) body t) (hs : ∀ x, foldedSetIterable iter X.env x = pure x := by intro _; rfl) :
    SA X B (.For tg iter body [] pos) (forA B.S.length ti g t) := ⟨fun D s h ad F H σ r => ws_of (ps_for hp hc pi_wi pg_wg pss_wss hs) (hi.run ad F H s σ _ _ r h fun J ad2 F2 H2 s2 ds e2 k2 r2 w hz q => by
  refine ⟨fun i m σ' H' => m = ds.length - i ∧ i ≤ ds.length ∧ ∃ ad' F' s', Same F2 F' ∧ Rl B ad' F' H' s' σ' ∧ forW B.S.length g t D (ds.drop i) s', ⟨ds.length, by simp, Nat.zero_le _, ad2, F2, s2, Same.refl _, r2, q⟩, ?_⟩
  rintro i m σ' H' ⟨rfl, hi', ad', F', s', s1, r', q'⟩
  obtain ⟨w1, w2⟩ := w F' H' s1 r'.fh
  by_cases hlt : i < ds.length
  · have e : ds[i]? = some ds[i] := List.getElem?_eq_getElem hlt
    obtain ⟨go, yl⟩ := w1 i _ e
    rw [drop_get e] at q'
    refine .inr ⟨go, fun σ3 H3 => ∃ ad3 F3 s3, Same F2 F3 ∧ Rl B ad3 F3 H3 s3 σ3 ∧ forW B.S.length g t D (ds.drop (i + 1)) s3, fun σ3 H3 p' => ⟨ds.length - (i + 1), by omega, rfl, hlt, p'⟩, fun x H4 y => ?_⟩
    obtain ⟨F4, g4, hd⟩ := yl x H4 y
    have r4 := r'.gr g4
    refine (hg.run B ad' F4 H4 s' σ' (.d ds[i]) x _ r4 hd q').mono2 ?_
    rintro σ5 H5 ⟨rfl, k5, s5, r5, q5⟩
    intro pins sh I
    refine thn ((hb F4 r5.flr).run _ s5 q5 ad' F4 H5 σ5 r5.floor pins sh I) fun f s6 z => ?_
    cases f with
    | next =>
      obtain ⟨σ2, H2, I2, ad2, F2', s2, r2', s3, wk, w3⟩ := z
      obtain ⟨ad9, r9⟩ := (r5.unfloor r2').weakX wk
      exact ⟨σ2, H2, I2, ad9, F2', s3, s1.trans (g4.ff.trans r2'.ff), r9, w3⟩
    | brk =>
      obtain ⟨σ2, H2, I2, ad2, F2', s2, r2', w3⟩ := z
      exact ⟨σ2, H2, I2, ad2, F2', s2, r5.unfloor r2', w3⟩
    | cont =>
      obtain ⟨σ2, H2, I2, ad2, F2', s2, r2', s3, wk, w3⟩ := z
      obtain ⟨ad9, r9⟩ := (r5.unfloor r2').weakX wk
      exact ⟨σ2, H2, I2, ad9, F2', s3, s1.trans (g4.ff.trans r2'.ff), r9, w3⟩
    | ret u =>
      obtain ⟨v, σ2, H2, I2, rv, ad2, F2', x2, s2, σ3, r2', hv, w3⟩ := z
      exact ⟨v, σ2, H2, I2, rv, ad2, F2', x2, s2, σ3, r5.unfloor r2', hv, w3⟩
  · have e : i = ds.length := by omega
    subst e
    rw [List.drop_length] at q'
    exact .inl ⟨w2, ad', F', s', r', q'⟩)⟩
end
end Kr
/-! layer A4 -/
namespace Kr
open PySem L2
section
variable {B : Bs} {ad : List Addr} {F H : Hp} {s : AS} {σ : St} {D : Addr} {o : HO}
/-- a thing aside changes, or goes -/
theorem Rl.aput (r : Rl B ad F H s σ) (h1 : D ∉ ad) (h2 : F D = none) (h3 : B.H0 D = none) (h4 : D ∉ s.cs.flatMap Cell.ads) (h5 : D ∉ B.T) : Rl B ad F (upd H D o) s σ := by
  have hS : D ∉ B.S := fun z => h1 (let ⟨ad', e, _⟩ := r.pre; e ▸ List.mem_append_left _ z)
  have hq : ∀ q, q ∈ s.cs.flatMap Cell.ads → q ≠ D := fun q hq z => h4 (z ▸ hq)
  refine ⟨r.ff, same_mut r.fh h2, fun b u hb ht e => ?_, fun b hb => ?_, r.new, r.pre, r.nd, r.len, fun i p c e1 e2 => ?_, r.sln, r.slt, ⟨r.inn.nd, r.inn.off, fun q h => ⟨(r.inn.fr q h).1, by rw [upd_ne (hq q h)]; exact (r.inn.fr q h).2⟩, r.inn.own, r.inn.old⟩⟩
  · rw [upd_ne (ne_of_none e h3)]; exact r.hh b u hb ht e
  · rw [upd_ne (fun z => by subst z; exact hb.elim hS h5)]; exact r.al b hb
  · have hp : p ≠ D := fun z => h1 (z ▸ List.mem_of_getElem? e1)
    obtain ⟨n, l, ok⟩ := r.cel i p c e1 e2
    exact ⟨by rw [upd_ne hp]; exact n, l, ok.mono (Ext.refl _) (Same.refl _) (fun o' e => by rw [upd_ne hp]; exact e) fun q h o' e => by rw [upd_ne (hq q (mem_ads e2 h))]; exact e⟩
def out (H : Hp) (D : Addr) : Hp := fun b => if b = D then none else H b
theorem out_ne {b : Addr} (h : b ≠ D) : out H D b = H b := if_neg h
theorem out_same : out H D D = none := if_pos rfl
theorem upd_out (h : H D = some o) : upd (out H D) D o = H := by
  funext b
  by_cases hb : b = D
  · subst hb; rw [upd_same, h]
  · rw [upd_ne hb, out_ne hb]
theorem Rl.aout (r : Rl B ad F H s σ) (h1 : D ∉ ad) (h2 : F D = none) (h3 : B.H0 D = none) (h4 : D ∉ s.cs.flatMap Cell.ads) (h5 : D ∉ B.T) : Rl B ad F (out H D) s σ := by
  have hS : D ∉ B.S := fun z => h1 (let ⟨ad', e, _⟩ := r.pre; e ▸ List.mem_append_left _ z)
  have hq : ∀ q, q ∈ s.cs.flatMap Cell.ads → q ≠ D := fun q hq z => h4 (z ▸ hq)
  refine ⟨r.ff, fun b o e => ?_, fun b u hb ht e => ?_, fun b hb => ?_, r.new, r.pre, r.nd, r.len, fun i p c e1 e2 => ?_, r.sln, r.slt, ⟨r.inn.nd, r.inn.off, fun q h => ⟨(r.inn.fr q h).1, by rw [out_ne (hq q h)]; exact (r.inn.fr q h).2⟩, r.inn.own, r.inn.old⟩⟩
  · rw [out_ne (ne_of_none e h2)]; exact r.fh b o e
  · rw [out_ne (ne_of_none e h3)]; exact r.hh b u hb ht e
  · rw [out_ne (fun z => by subst z; exact hb.elim hS h5)]; exact r.al b hb
  · have hp : p ≠ D := fun z => h1 (z ▸ List.mem_of_getElem? e1)
    obtain ⟨n, l, ok⟩ := r.cel i p c e1 e2
    exact ⟨by rw [out_ne hp]; exact n, l, ok.mono (Ext.refl _) (Same.refl _) (fun o' e => by rw [out_ne hp]; exact e) fun q h o' e => by rw [out_ne (hq q (mem_ads e2 h))]; exact e⟩
end
/-! ## comprehensions -/
def AVal.data? : AVal → Option PyData | .d x => some x | _ => none
theorem AVal.data?_of {x : AVal} {d : PyData} (h : x.data? = some d) : x = .d d := by
  cases x with
  | d y => cases h; rfl
  | r n => cases h
  | s _ _ => cases h
  | a _ _ _ => cases h
theorem AVal.data?_d {d : PyData} : (AVal.d d).data? = some d := rfl
abbrev TIO := AS → (List PyData → (List Cell → Prop) → AS → Prop) → Prop
def lcW (g : TGA) (tt : TTA) (te : TEA) (vs : List Nat) (ok : List Cell → Prop) (sl : List (Option AVal)) : List PyData → List PyData → List Cell → (List PyData → List Cell → Prop) → Prop
  | [], acc, cs, Q => ok cs ∧ Q acc cs
  | x :: xs, acc, cs, Q => ok cs ∧ g (.d x) ⟨wipeA sl vs, cs⟩ fun s1 => tt s1 fun b s2 => if b = true then te s2 fun y s3 => onSome y.data? fun d => lcW g tt te vs ok sl xs (acc ++ [d]) s3.cs Q else lcW g tt te vs ok sl xs acc s2.cs Q
def yesA : TTA := fun s Q => Q true s
def lcN (ti : TIO) (g : TGA) (tt : TTA) (te : TEA) (vs : List Nat) : TNA := fun s Q => ti s fun ds ok s1 => lcW g tt te vs ok s1.sl ds [] s1.cs fun acc cs => Q (.lst acc) ⟨s1.sl, cs⟩
/-- what is walked may be a list of our own that stands still -/
def WalksO (J : It) (ad2 : List Addr) (F2 : Hp) (ds : List PyData) (ok : List Cell → Prop) : Prop := ∀ (B3 : Bs) (ad3 : List Addr) (F3 H3 : Hp) (s3 : AS) (σ3 : St), Ext ad2 ad3 → Same F2 F3 → Rl B3 ad3 F3 H3 s3 σ3 → ok s3.cs →
  (∀ (i : Nat) d, ds[i]? = some d → J.go i H3 ∧ ∀ x H4, J.yld i H3 x H4 → ∃ F4, Gr F3 H3 F4 H4 ∧ Da F4 d x) ∧ J.stop ds.length H3
structure IO (X : Cx) (B : Bs) (tg iter : Expr) (t : TIO) : Prop where
  run : ∀ ad F H s σ Q (R : It → Hp → Prop), Rl B ad F H s σ → t s Q → (∀ J ad2 F2 H2 s2 ds ok, Ext ad ad2 → Same F F2 → Rl B ad2 F2 H2 s2 σ → WalksO J ad2 F2 ds ok → ds.length ≤ sizeLine → Q ds ok s2 → R J H2) → WI X tg iter σ H R
def ioT (t : AS → (List PyData → AS → Prop) → Prop) : TIO := fun s Q => t s fun ds s1 => Q ds (fun _ => True) s1
theorem IO.of {X : Cx} {B : Bs} {tg iter : Expr} {t : AS → (List PyData → AS → Prop) → Prop} (h : IA X B tg iter t) : IO X B tg iter (ioT t) := ⟨fun ad F H s σ Q R r ht k => h.run ad F H s σ _ R r ht fun J ad2 F2 H2 s2 ds e2 k2 r2 w hz q => k J ad2 F2 H2 s2 ds _ e2 k2 r2 (fun B3 ad3 F3 H3 s3 σ3 _ k3 r3 _ => w F3 H3 k3 r3.fh) hz q⟩
section
variable {X : Cx} {B : Bs} {σ : St} {F H : Hp} {elt tg iter c : Expr} {scope : Scope} {pos spos py : Pos} {own : List (Str × Nat)} {y : Str} {ti : TIO} {g : TGA} {tt : TTA} {te : TEA} {ks vs : List Nat}
theorem lc_coreB {T : TT} (hg : ∀ s H0 C cl fp, GT (Blk X scope s H0 C cl fp) tg ks g) (hk : ∀ k ∈ ks, k ∈ vs)
    (ht : ∀ B' ad F H s σ Q, Rl B' ad F H s σ → tt s Q → T σ H (PostT B' ad F σ Q)) (hT : ∀ σ H (Q Q' : Bool → Hp → Prop), T σ H Q → (∀ b H', Q b H' → Q' b H') → T σ H Q')
    (he : ∀ s H0 C cl fp B', EA (Blk X scope s H0 C cl fp) B' elt te) {ad : List Addr} {s : AS} {Q : Cell → AS → Prop} {K : VK}
    (hi : ∀ (Q : List PyData → (List Cell → Prop) → AS → Prop) (R : It → Hp → Prop), ti s Q → (∀ J ad2 F2 H2 s2 ds ok, Ext ad ad2 → Same F F2 → Rl B ad2 F2 H2 s2 σ → WalksO J ad2 F2 ds ok → ds.length ≤ sizeLine → Q ds ok s2 → R J H2) → WI X tg iter σ H R) (r : Rl B ad F H s σ) (t : lcN ti g tt te vs s Q) (hK : ∀ v H', PostN B ad F σ Q v H' → K v H') :
    tLc (WI X tg iter) (gB X scope tg) T (eB X scope elt) vs σ H K := by
  refine hi _ _ t fun J ad2 F2 H2 s2 ds ok e2 k2 r2 w hz q D hD => ?_
  obtain ⟨f1, f2, f3⟩ := r2.fresh hD
  have hF2 : F2 D = none := r2.fh.free hD
  refine ⟨fun i m H' => m = ds.length - i ∧ i ≤ ds.length ∧ ∃ ad' F' cs acc ys, Same F2 F' ∧ Ext ad2 ad' ∧ Rl B ad' F' H' ⟨s2.sl, cs⟩ σ ∧ H' D = some (.lst ys) ∧ F' D = none ∧ (D ∉ ad' ∧ D ∉ cs.flatMap Cell.ads) ∧ DaAll F' acc ys ∧ acc.length ≤ i ∧ lcW g tt te vs ok s2.sl (ds.drop i) acc cs (fun acc cs => Q (.lst acc) ⟨s2.sl, cs⟩),
    ⟨ds.length, by simp, Nat.zero_le _, ad2, F2, s2.cs, [], [], Same.refl _, Ext.refl _, r2.gr ((Gr.refl r2.fh).open' hD), upd_same, hF2, ⟨f3, fun z => (r2.inn.fr D z).2 hD⟩, daAll_nil, Nat.le_refl _, q⟩, ?_⟩
  rintro i m H' ⟨rfl, hi', ad', F', cs, acc, ys, sF, eF, r', hHD, hFD, ⟨hDad, hDt⟩, hda, hacc, q'⟩
  have hok : ok cs := by
    cases hdr : ds.drop i with
    | nil => rw [hdr] at q'; exact q'.1
    | cons _ _ => rw [hdr] at q'; exact q'.1
  obtain ⟨w1, w2⟩ := w B ad' F' H' ⟨s2.sl, cs⟩ σ eF sF r' hok
  by_cases hlt : i < ds.length
  · have e0 : ds[i]? = some ds[i] := List.getElem?_eq_getElem hlt
    obtain ⟨go, yl⟩ := w1 i _ e0
    rw [drop_get e0] at q'
    refine .inr ⟨go, fun H3 => i + 1 ≤ ds.length ∧ ∃ ad' F' cs acc ys, Same F2 F' ∧ Ext ad2 ad' ∧ Rl B ad' F' H3 ⟨s2.sl, cs⟩ σ ∧ H3 D = some (.lst ys) ∧ F' D = none ∧ (D ∉ ad' ∧ D ∉ cs.flatMap Cell.ads) ∧ DaAll F' acc ys ∧ acc.length ≤ i + 1 ∧ lcW g tt te vs ok s2.sl (ds.drop (i + 1)) acc cs (fun acc cs => Q (.lst acc) ⟨s2.sl, cs⟩),
      fun H3 p' => ⟨ds.length - (i + 1), by omega, rfl, p'⟩, fun x H4 y => ?_⟩
    obtain ⟨F4, g4, hd⟩ := yl x H4 y
    have r4 := r'.gr g4
    have hHD4 := g4.hh _ _ hHD
    have hFD4 : F4 D = none := g4.f0 hFD hHD
    have rw4 := r4.wipe vs
    intro s0 H0 C cl fp
    refine ((hg s0 H0 C cl fp).run _ ad' F4 H4 _ _ (.d ds[i]) x _ rw4.base hd q'.2).mono2 ?_
    rintro σ5 H5 ⟨rfl, k5, s5, r5, q5⟩
    refine ⟨wipe_keeps k5 hk, hT _ _ _ _ (ht _ ad' F4 H5 s5 σ5 _ r5 q5) fun b H6 q6 => ?_⟩
    obtain ⟨ad6, F6, s6, e6, k6, r6, q6⟩ := q6
    cases b with
    | true =>
      rw [if_pos rfl] at q6
      refine iteT ?_
      intro s0 H0 C cl fp
      refine ((he s0 H0 C cl fp _).run ad6 F6 H6 s6 σ5 _ r6 q6).imp fun v H7 q7 => ?_
      obtain ⟨ad7, F7, z, s7, e7, k7, r7, hv, d, hd7, q7⟩ := q7
      have := AVal.data?_of hd7
      subst this
      obtain ⟨h1, h2, h3, h9⟩ := r7.aside hDad hDt hHD4 hFD4
      have rb := r4.back (rw4.rebase r7) (e6.trans e7) (k6.trans k7)
      refine ⟨ys, h1, ?_, hlt, ad7, F7, s7.cs, acc ++ [d], ys ++ [v], sF.trans (g4.ff.trans (k6.trans k7)), eF.trans (e6.trans e7), rb.aput h3 h2 f1 h9 (r2.offT hD), upd_same, h2, ⟨h3, h9⟩, (hda.mono (g4.ff.trans (k6.trans k7))).snoc hv, by simp; omega, q7⟩
      have h8 := hda.length
      omega
    | false =>
      obtain ⟨h1, h2, h3, h9⟩ := r6.aside hDad hDt hHD4 hFD4
      have rb := r4.back (rw4.rebase r6) e6 k6
      exact iteF ⟨hlt, ad6, F6, s6.cs, acc, ys, sF.trans (g4.ff.trans k6), eF.trans e6, rb, h1, h2, ⟨h3, h9⟩, hda.mono (g4.ff.trans k6), by omega, q6⟩
  · have e : i = ds.length := by omega
    subst e
    rw [List.drop_length] at q'
    refine .inl ⟨w2, hK _ _ ⟨ad', F', .lst acc, ⟨s2.sl, cs⟩, D, out H' D, .lst ys, e2.trans eF, k2.trans sF, r'.aout hDad hFD f1 hDt (r2.offT hD), rfl, out_same, (upd_out hHD).symm, ⟨ys, hHD, hda⟩, rfl, q'.2⟩⟩
theorem lc_coreA {T : TT} (hi : IO X B tg iter ti) (hg : ∀ s H0 C cl fp, GT (Blk X scope s H0 C cl fp) tg ks g) (hk : ∀ k ∈ ks, k ∈ vs)
    (ht : ∀ B' ad F H s σ Q, Rl B' ad F H s σ → tt s Q → T σ H (PostT B' ad F σ Q)) (hT : ∀ σ H (Q Q' : Bool → Hp → Prop), T σ H Q → (∀ b H', Q b H' → Q' b H') → T σ H Q')
    (he : ∀ s H0 C cl fp B', EA (Blk X scope s H0 C cl fp) B' elt te) {ad : List Addr} {s : AS} {Q : Cell → AS → Prop} {K : VK} (r : Rl B ad F H s σ) (t : lcN ti g tt te vs s Q) (hK : ∀ v H', PostN B ad F σ Q v H' → K v H') :
    tLc (WI X tg iter) (gB X scope tg) T (eB X scope elt) vs σ H K := lc_coreB hg hk ht hT he (fun Q R t k => hi.run ad F H s σ Q R r t k) r t hK
theorem tYes_ok {B' : Bs} {ad : List Addr} {F H : Hp} {s : AS} {σ : St} {Q : Bool → AS → Prop} (r : Rl B' ad F H s σ) (t : yesA s Q) : tYes σ H (PostT B' ad F σ Q) := PostT.here r t
theorem en_lc (own : List (Str × Nat)) (o : LcOk X scope own iter) (hi : IO X B tg iter ti) (hg : ∀ s H0 C cl fp, GT (Blk X scope s H0 C cl fp) tg ks g) (he : ∀ s H0 C cl fp B', EA (Blk X scope s H0 C cl fp) B' elt te) (hk : ∀ k ∈ ks, k ∈ own.map (·.2) := by decide) :
    EN X B (.ListComp elt [⟨tg, iter, [], 0⟩] scope pos) (lcN ti g yesA te (own.map (·.2))) := ⟨fun ad F H s σ Q r t =>
  we_of (pe_lc (g := gB X scope tg) (tt := tYes) (te := eB X scope elt) o.calm o.nd pi_wi (blkOk_by o.ok) (fun s H0 C cl fp => ⟨fun pins s' σ H v u Q I r h => h s H0 C cl fp pins s' u I r⟩) (fun _ _ _ _ _ => pts_nil) (fun s H0 C cl fp => ⟨fun pins s' σ H Q I h => h s H0 C cl fp pins s' I⟩) o.fs)
    (lc_coreA hi hg hk (fun B' ad F H s σ Q r t => tYes_ok r t) (fun σ H Q Q' h k => k _ _ h) he r t fun _ _ h => h)⟩
theorem en_lcIf (own : List (Str × Nat)) (o : LcOk X scope own iter) (hi : IO X B tg iter ti) (hg : ∀ s H0 C cl fp, GT (Blk X scope s H0 C cl fp) tg ks g) (ht : ∀ s H0 C cl fp B', ET (Blk X scope s H0 C cl fp) B' c tt) (he : ∀ s H0 C cl fp B', EA (Blk X scope s H0 C cl fp) B' elt te) (hk : ∀ k ∈ ks, k ∈ own.map (·.2) := by decide) :
    EN X B (.ListComp elt [⟨tg, iter, [c], 0⟩] scope pos) (lcN ti g tt te (own.map (·.2))) := ⟨fun ad F H s σ Q r t =>
  we_of (pe_lc (g := gB X scope tg) (tt := tB' X scope c) (te := eB X scope elt) o.calm o.nd pi_wi (blkOk_by o.ok) (fun s H0 C cl fp => ⟨fun pins s' σ H v u Q I r h => h s H0 C cl fp pins s' u I r⟩) (fun s H0 C cl fp => pts_one ⟨fun pins s' σ H Q I h => h s H0 C cl fp pins s' I⟩) (fun s H0 C cl fp => ⟨fun pins s' σ H Q I h => h s H0 C cl fp pins s' I⟩) o.fs)
    (lc_coreA hi hg hk (fun B' ad F H s σ Q r t s0 H0 C cl fp => (ht s0 H0 C cl fp B').run ad F H s σ Q r t) (fun σ H Q Q' h k s0 H0 C cl fp => (h s0 H0 C cl fp).imp k) he r t fun _ _ h => h)⟩
theorem PostN.owned {ad : List Addr} {F : Hp} {Q : VQ} {v : V} {H2 : Hp} (q : PostN B ad F σ (fun c s1 => Q (.r s1.cs.length) ⟨s1.sl, s1.cs ++ [c]⟩) v H2) : Post B ad F σ Q v H2 := by
  obtain ⟨ad2, F2, c, a2, p, H1, o, h1, h2, r2, rfl, hp, rfl, ok, hl, q⟩ := q
  have r3 := r2.push (o := o) hp (ok.mono (ad2 := ad2 ++ [p]) ⟨[p], rfl⟩ (Same.refl _) (fun _ e => e) fun _ _ _ e => e) hl
  exact ⟨_, F2, .r a2.cs.length, _, h1.trans ⟨[p], rfl⟩, h2, r3, ⟨p, by rw [← r2.len]; simp, rfl⟩, q⟩
theorem PostN.frz {ad : List Addr} {F : Hp} {Q : VQ} {v : V} {H2 : Hp} (q : PostN B ad F σ (fun c s1 => onSome (frzC c) fun d => Q (.d d) s1) v H2) : Post B ad F σ Q v H2 := by
  obtain ⟨ad2, F2, c, a2, p, H1, o, h1, h2, r2, rfl, hp, rfl, ok, hl, d, hd, q⟩ := q
  obtain ⟨o', e1, e2⟩ := ok.frz hl (r2.fh.free hp) hd
  rw [upd_same] at e1
  cases e1
  exact (Post.newD r2 hp e2 q).up h1 h2
end
end Kr
/-! layer A5 -/
namespace Kr
open PySem L2
/-! ## what an abstract value is seen as -/
inductive View where
  | seq (xs : List AVal)
  | dct (kvs : List (Key × AVal))
  | txt (z : Str)
  | oth
def keyOf : PyData → Option Key
  | .int i => some (.inl i)
  | .str x => some (.inr x)
  | _ => none
def unKV : List (PyData × PyData) → Option (List (Key × PyData))
  | [] => some []
  | p :: r => (keyOf p.1).bind fun k => (unKV r).map fun r => (k, p.2) :: r
theorem unKV_no {k : List (PyData × PyData)} {l : List (Key × PyData)} (e : unKV k = some l) : noExK k = true := by
  cases k with
  | nil => rfl
  | cons p r =>
    obtain ⟨x, y⟩ := p
    cases x with
    | none => cases e
    | _ => rfl
def dkv (kvs : List (Key × PyData)) : List (Key × AVal) := kvs.map fun p => (p.1, .d p.2)
def viewD : PyData → View
  | .list ds => .seq (ds.map .d)
  | .tuple ds => .seq (ds.map .d)
  | .str z => .txt z
  | .dict kvs => match unKV kvs with
    | some l => .dct (dkv l)
    | none => .oth
  | _ => .oth
/-- the parts of a node -/
def valT (n : Nat) (pt : List Nat) : Tr → AVal
  | .d x => .d x
  | .nd _ a _ => .a a n pt
def kids (n : Nat) (pt : List Nat) (xs : List Tr) : List AVal := xs.mapIdx fun i t => valT n (i :: pt) t
def viewT (n : Nat) (pt : List Nat) (k : Kd) (xs : List Tr) : View := match k with
  | .lst => .seq (kids n pt xs)
  | .tup => .seq (kids n pt xs)
  | .dct ks => .dct (ks.zip (kids n pt xs))
  | .dctT _ => .oth
  | .obj _ _ _ => .oth
def viewC (n : Nat) : Cell → View
  | .tr (.nd k _ xs) => viewT n [] k xs
  | .lst ds => .seq (ds.map .d)
  | .nl xs => .seq xs
  | .nt xs => .seq xs
  | .dK kvs => .dct (dkv kvs)
  | .nd kvs => .dct kvs
  | .dl _ _ kvs => .dct (dkv kvs)
  | .fz x => viewD x
  | _ => .oth
def view (s : AS) : AVal → View
  | .d x => viewD x
  | .r n => match s.cs[n]? with
    | some c => viewC n c
    | none => .oth
  | .s _ _ => .oth
  | .a p n pt => match nodeAt s (.a p n pt) with
    | some (m, pt', k, _, xs) => viewT m pt' k xs
    | none => .oth
def AVal.key? : AVal → Option Key
  | .d x => keyOf x
  | _ => none
def getA {α : Type} (kvs : List (Key × α)) (k : Key) : Option α := (kvs.find? fun kv => decide (kv.1 = k)).map (·.2)
def putA {α : Type} (kvs : List (Key × α)) (k : Key) (v : α) : List (Key × α) :=
  if (kvs.any fun kv => decide (kv.1 = k)) = true then kvs.map (fun kv => if kv.1 = k then (kv.1, v) else kv) else kvs ++ [(k, v)]
theorem keyOf_keyD (k : Key) : keyOf (keyD k) = some k := by cases k <;> rfl
theorem unKV_keyD : ∀ kvs : List (Key × PyData), unKV (kvs.map fun p => (keyD p.1, p.2)) = some kvs
  | [] => rfl
  | p :: r => by
    show (keyOf (keyD p.1)).bind _ = _
    rw [keyOf_keyD, unKV_keyD r]; rfl
theorem view_dictD {s : AS} {kvs : List (Key × PyData)} : view s (.d (dictD kvs)) = .dct (dkv kvs) := by
  show (match unKV (kvs.map fun p => (keyD p.1, p.2)) with | some l => View.dct (dkv l) | none => .oth) = _
  rw [unKV_keyD]
section
variable {B : Bs} {ad : List Addr} {F H : Hp} {s : AS} {σ : St} {x y : AVal} {v : V}
theorem keyOf_da {d : PyData} {k : Key} (h : keyOf d = some k) (hd : Da F d v) : v = kV k := by
  cases d <;> simp only [keyOf] at h <;> cases h <;> exact hd
theorem AVal.key?_ok {k : Key} (h : x.key? = some k) (hv : VOk ad F x v) : v = kV k := by
  cases x with
  | d x => exact keyOf_da h hv
  | r n => cases h
  | s _ _ => cases h
  | a _ _ _ => cases h
theorem valT_ok {n : Nat} {pt : List Nat} {t : Tr} (h : TrOk F H t v) : VOk ad F (valT n pt t) v := by
  cases t with
  | d x => exact h
  | nd k a xs => exact h.node.1
theorem kids_ok {n : Nat} {pt : List Nat} {xs : List Tr} {vs : List V} (h : TrAll F H xs vs) : Paired (VOk ad F) (kids n pt xs) vs := by
  have key : ∀ (g : Nat → List Nat) (xs : List Tr) (vs : List V), TrAll F H xs vs → Paired (VOk ad F) (xs.mapIdx fun i t => valT n (g i) t) vs := by
    intro g xs
    induction xs generalizing g with
    | nil => intro vs h; obtain rfl := (show vs = [] from h); exact .nil
    | cons t ts ih =>
      intro vs h
      obtain ⟨v, r, rfl, h1, h2⟩ := (show ∃ v r, vs = v :: r ∧ TrOk F H t v ∧ TrAll F H ts r from h)
      rw [List.mapIdx_cons]
      exact .cons (valT_ok h1) (ih (fun i => g (i + 1)) r h2)
  exact key _ xs vs h
theorem zip_ok {ks : List Key} {xs : List AVal} {vs : List V} (h : Paired (VOk ad F) xs vs) : KrOk ad F (ks.zip xs) (ks.zip vs) := by
  induction h generalizing ks with
  | nil => simp; exact .nil
  | cons h t ih =>
    cases ks with
    | nil => exact .nil
    | cons k ks => exact .cons ⟨rfl, h⟩ ih
theorem viewT_seq {n : Nat} {pt : List Nat} {k : Kd} {q : Addr} {xs : List Tr} {vs : List V} {ys : List AVal} (e : viewT n pt k xs = .seq ys) (h1 : H q = some (k.ho vs)) (h2 : TrAll F H xs vs) : (H q = some (.lst vs) ∨ H q = some (.tup vs)) ∧ Paired (VOk ad F) ys vs := by
  cases k with
  | lst => cases e; exact ⟨.inl h1, kids_ok h2⟩
  | tup => cases e; exact ⟨.inr h1, kids_ok h2⟩
  | dct ks => cases e
  | dctT ks => cases e
  | obj _ _ _ => cases e
theorem viewT_dct {n : Nat} {pt : List Nat} {k : Kd} {q : Addr} {xs : List Tr} {vs : List V} {kvs : List (Key × AVal)} (e : viewT n pt k xs = .dct kvs) (h1 : H q = some (k.ho vs)) (h2 : TrAll F H xs vs) : ∃ es, Rd H q (.dK es) ∧ KrOk ad F kvs es := by
  cases k with
  | lst => cases e
  | tup => cases e
  | dct ks => cases e; exact ⟨_, .inl h1, zip_ok (kids_ok h2)⟩
  | dctT ks => cases e
  | obj _ _ _ => cases e
theorem viewT_txt {n : Nat} {pt : List Nat} {k : Kd} {xs : List Tr} {z : Str} (e : viewT n pt k xs = .txt z) : False := by
  cases k <;> cases e
theorem krOk_dkv {kvs : List (Key × PyData)} {es : List (Key × V)} (h : KvOk F kvs es) : KrOk ad F (dkv kvs) es := by
  unfold dkv KrOk
  unfold KvOk at h
  induction h with
  | nil => exact .nil
  | cons h t ih => exact .cons h ih
theorem kvOk_of : ∀ {kvs : List (PyData × PyData)} {l : List (Key × PyData)} {es : List (Key × V)}, unKV kvs = some l → DaKV F kvs es → KvOk F l es
  | [], l, es, h, hd => by cases h; obtain rfl := (show es = [] from hd); exact .nil
  | (k, d) :: r, l, es, h, hd => by
    obtain ⟨k', v, r', rfl, h0, h1, h2⟩ := (show ∃ k' v r', es = (k', v) :: r' ∧ KeyD k k' ∧ Da F d v ∧ DaKV F r r' from hd)
    have h' : (keyOf k).bind (fun k => (unKV r).map fun r => (k, d) :: r) = some l := h
    cases hk : keyOf k with
    | none => rw [hk] at h'; cases h'
    | some k2 =>
      rw [hk] at h'
      cases hr : unKV r with
      | none => rw [hr] at h'; cases h'
      | some r2 =>
        rw [hr] at h'
        cases h'
        refine .cons ⟨?_, h1⟩ (kvOk_of hr h2)
        cases k <;> simp only [keyOf] at hk <;> cases hk <;> cases k' <;> simp only [KeyD] at h0
        · rw [h0]
        · rw [h0]
theorem viewD_seq {d : PyData} {xs : List AVal} (e : viewD d = .seq xs) (h : Da F d v) : ∃ l vs, v = .ref l ∧ (F l = some (.lst vs) ∨ F l = some (.tup vs)) ∧ Paired (VOk ad F) xs vs := by
  cases d with
  | list ds => cases e; obtain ⟨a, vs, rfl, h1, h2⟩ := h; exact ⟨a, vs, rfl, .inl h1, pairedD h2⟩
  | tuple ds => cases e; obtain ⟨a, vs, rfl, h1, h2⟩ := h; exact ⟨a, vs, rfl, .inr h1, pairedD h2⟩
  | dict kvs =>
    simp only [viewD] at e
    split at e <;> cases e
  | _ => cases e
theorem viewD_dct {d : PyData} {kvs : List (Key × AVal)} (e : viewD d = .dct kvs) (h : Da F d v) : ∃ l es, v = .ref l ∧ Rd F l (.dK es) ∧ KrOk ad F kvs es := by
  cases d with
  | dict k =>
    simp only [viewD] at e
    split at e
    · rename_i l hl
      cases e
      obtain ⟨a, es, rfl, h1, h2⟩ := Da.dict h (unKV_no hl)
      exact ⟨a, es, rfl, h1, krOk_dkv (kvOk_of hl h2)⟩
    · cases e
  | _ => cases e
theorem viewD_txt {d : PyData} {z : Str} (e : viewD d = .txt z) (h : Da F d v) : v = .str z := by
  cases d with
  | str k => cases e; exact h
  | dict kvs =>
    simp only [viewD] at e
    split at e <;> cases e
  | _ => cases e
theorem VOk.seq {xs : List AVal} (r : Rl B ad F H s σ) (h : VOk ad F x v) (e : view s x = .seq xs) : ∃ l vs, v = .ref l ∧ (H l = some (.lst vs) ∨ H l = some (.tup vs)) ∧ Paired (VOk ad F) xs vs := by
  cases x with
  | s _ _ => cases e
  | d x =>
    obtain ⟨l, vs, h1, h2, h3⟩ := viewD_seq (ad := ad) e h
    exact ⟨l, vs, h1, h2.elim (fun z => .inl (r.fh _ _ z)) (fun z => .inr (r.fh _ _ z)), h3⟩
  | r n =>
    obtain ⟨a, h1, rfl⟩ := h
    simp only [view] at e
    split at e
    · rename_i c hc
      obtain ⟨_, _, ok⟩ := r.cel n a c h1 hc
      cases c with
      | lst ds => cases e; obtain ⟨vs, h2, h3⟩ := ok; exact ⟨a, vs, rfl, .inl h2, pairedD h3⟩
      | nl xs => cases e; obtain ⟨vs, h2, h3⟩ := ok; exact ⟨a, vs, rfl, .inl h2, h3⟩
      | nt xs => cases e; obtain ⟨vs, h2, h3⟩ := ok; exact ⟨a, vs, rfl, .inr h2, h3⟩
      | fz y =>
        obtain ⟨l, vs, h1, h2, h3⟩ := viewD_seq (ad := ad) (F := F) e ok
        exact ⟨l, vs, h1, h2.elim (fun z => .inl (r.fh _ _ z)) (fun z => .inr (r.fh _ _ z)), h3⟩
      | tr t => cases t with
        | d _ => cases e
        | nd k q ys =>
          obtain ⟨h2, h3⟩ := ok
          cases h2
          obtain ⟨_, vs, h4, _, h5⟩ := h3.node
          obtain ⟨h6, h7⟩ := viewT_seq (ad := ad) e h4 h5
          exact ⟨_, vs, rfl, h6, h7⟩
      | _ => cases e
    · cases e
  | a p n pt =>
    simp only [view] at e
    split at e
    · rename_i m pt' k q ys hn
      obtain ⟨t, p', vs, N⟩ := nodeAt_ok r h hn
      obtain ⟨h6, h7⟩ := viewT_seq (ad := ad) e N.ho N.kids
      exact ⟨q, vs, N.val, h6, h7⟩
    · cases e
theorem Rd.up {F H : Hp} {a : Addr} {u : HO} (s : Same F H) (h : Rd F a u) : Rd H a u := h.elim (fun z => .inl (s _ _ z)) fun ⟨o, z⟩ => .inr ⟨o, s _ _ z⟩
theorem VOk.dct {kvs : List (Key × AVal)} (r : Rl B ad F H s σ) (h : VOk ad F x v) (e : view s x = .dct kvs) : ∃ l es, v = .ref l ∧ Rd H l (.dK es) ∧ KrOk ad F kvs es := by
  cases x with
  | s _ _ => cases e
  | d x =>
    obtain ⟨l, vs, h1, h2, h3⟩ := viewD_dct (ad := ad) e h
    exact ⟨l, vs, h1, Rd.up r.fh h2, h3⟩
  | r n =>
    obtain ⟨a, h1, rfl⟩ := h
    simp only [view] at e
    split at e
    · rename_i c hc
      obtain ⟨_, _, ok⟩ := r.cel n a c h1 hc
      cases c with
      | dK ds => cases e; obtain ⟨vs, h2, h3⟩ := ok; exact ⟨a, vs, rfl, .inl h2, krOk_dkv h3⟩
      | dl od es ds => cases e; obtain ⟨h2, h3⟩ := ok; exact ⟨a, es, rfl, .inr ⟨od, h2⟩, krOk_dkv h3⟩
      | nd xs => cases e; obtain ⟨vs, h2, h3⟩ := ok; exact ⟨a, vs, rfl, .inl h2, h3⟩
      | fz y =>
        obtain ⟨l, vs, h1, h2, h3⟩ := viewD_dct (ad := ad) (F := F) e ok
        exact ⟨l, vs, h1, Rd.up r.fh h2, h3⟩
      | tr t => cases t with
        | d _ => cases e
        | nd k q ys =>
          obtain ⟨h2, h3⟩ := ok
          cases h2
          obtain ⟨_, vs, h4, _, h5⟩ := h3.node
          obtain ⟨es, h6, h7⟩ := viewT_dct (ad := ad) e h4 h5
          exact ⟨_, es, rfl, h6, h7⟩
      | _ => cases e
    · cases e
  | a p n pt =>
    simp only [view] at e
    split at e
    · rename_i m pt' k q ys hn
      obtain ⟨t, p', vs, N⟩ := nodeAt_ok r h hn
      obtain ⟨es, h6, h7⟩ := viewT_dct (ad := ad) e N.ho N.kids
      exact ⟨q, es, N.val, h6, h7⟩
    · cases e
theorem VOk.txt {z : Str} (r : Rl B ad F H s σ) (h : VOk ad F x v) (e : view s x = .txt z) : v = .str z := by
  cases x with
  | s _ _ => cases e
  | d x => exact viewD_txt e h
  | r n =>
    obtain ⟨a, h1, rfl⟩ := h
    simp only [view] at e
    split at e
    · rename_i c hc
      obtain ⟨_, _, ok⟩ := r.cel n a c h1 hc
      cases c with
      | fz y => exact viewD_txt (F := F) e ok
      | tr t => cases t with
        | d _ => cases e
        | nd k q ys => exact (viewT_txt e).elim
      | _ => cases e
    · cases e
  | a p n pt =>
    simp only [view] at e
    split at e
    · exact (viewT_txt e).elim
    · cases e
theorem Paired.get {α β : Type} {R : α → β → Prop} : ∀ {xs : List α} {ys : List β} {i : Nat} {x : α}, Paired R xs ys → xs[i]? = some x → ∃ y, ys[i]? = some y ∧ R x y
  | _, _, _, _, .nil, e => by simp at e
  | _, _, 0, _, .cons h _, e => by simp at e; subst e; exact ⟨_, rfl, h⟩
  | _, _, i + 1, x, .cons _ t, e => by
    obtain ⟨y, h1, h2⟩ := Paired.get (i := i) t (by simpa using e)
    exact ⟨y, by simpa using h1, h2⟩
theorem Paired.atI {α β : Type} {R : α → β → Prop} {xs : List α} {ys : List β} {i : Int} {x : α} (h : Paired R xs ys) (e : L2.atI xs i = some x) : ∃ y, L2.atI ys i = some y ∧ R x y := by
  unfold L2.atI at e ⊢
  rw [← Paired.len h]
  cases hj : ixN xs.length i with
  | none => rw [hj] at e; simp at e
  | some j =>
    rw [hj] at e
    exact Paired.get h (by simpa using e)
theorem KrOk.get {kvs : List (Key × AVal)} {es : List (Key × V)} {k : Key} (h : KrOk ad F kvs es) : match getA kvs k with | some x => ∃ v, valV es k = some v ∧ VOk ad F x v | none => valV es k = none := by
  unfold KrOk at h
  induction h with
  | nil => rfl
  | @cons p q ps qs h t ih =>
    by_cases hk : p.1 = k
    · have : getA (p :: ps) k = some p.2 := by simp [getA, List.find?_cons, hk]
      rw [this]
      exact ⟨q.2, valV_pos (h.1.symm.trans hk), h.2⟩
    · have e1 : getA (p :: ps) k = getA ps k := by simp [getA, List.find?_cons, hk]
      have e2 : valV (q :: qs) k = valV qs k := valV_neg (by rw [← h.1]; exact hk)
      rw [e1, e2]
      exact ih
end
/-! ## operators -/
section
variable {X : Cx} {B : Bs}
def intOp (C : Int → Int → Prop) (g : Int → Int → Int) : AVal → AVal → TEA := fun x y s Q => onSome x.int? fun i => onSome y.int? fun j => C i j ∧ Q (.d (.int (g i j))) s
theorem opa_I {f : Value → Value → Sem Value} {C : Int → Int → Prop} {g : Int → Int → Int} (ho : OpR X f (rI C fun i j => .int (g i j))) : OpA X B f (intOp C g) := fun ad F H s σ x y u v Q r hx hy ⟨i, ei, j, ej, hc, q⟩ => by
  have e1 := AVal.int?_of ei
  have e2 := AVal.int?_of ej
  subst e1; subst e2
  exact ⟨_, ho, i, j, hx, hy, hc, .here (x := .d (.int (g i j))) r rfl q⟩
def intOp0 (g : Int → Int → Int) : AVal → AVal → TEA := fun x y s Q => onSome x.int? fun i => onSome y.int? fun j => Q (.d (.int (g i j))) s
theorem opa_I0 {f : Value → Value → Sem Value} {g : Int → Int → Int} (ho : OpR X f (rI0 fun i j => .int (g i j))) : OpA X B f (intOp0 g) := fun ad F H s σ x y u v Q r hx hy ⟨i, ei, j, ej, q⟩ => by
  have e1 := AVal.int?_of ei
  have e2 := AVal.int?_of ej
  subst e1; subst e2
  exact ⟨_, ho, i, j, hx, hy, .here (x := .d (.int (g i j))) r rfl q⟩
def subA : AVal → AVal → TEA := intOp0 fun i j => i - j
def fdivA : AVal → AVal → TEA := intOp CDiv fun i j => i / j
def modA : AVal → AVal → TEA := intOp (fun _ j => 0 < j) fun i j => i % j
def powA : AVal → AVal → TEA := intOp CPow fun i j => i ^ j.toNat
theorem o_sub : OpA X B (binaryOp .Sub) subA := opa_I0 op_sub
theorem o_fdiv : OpA X B (binaryOp .FloorDiv) fdivA := opa_I op_fdiv
theorem o_mod : OpA X B (binaryOp .Mod) modA := opa_I op_mod
theorem o_pow : OpA X B (binaryOp .Pow) powA := opa_I op_pow
/-- + of ints, texts, lists (told for good) -/
def addA : AVal → AVal → TEA := fun x y s Q => match x with
  | .d (.int i) => onSome y.int? fun j => Q (.d (.int (i + j))) s
  | .d (.str p) => onSome y.str? fun q => p.length + q.length ≤ sizeLine ∧ Q (.d (.str (p ++ q))) s
  | x => onSome (listOf s x) fun ds => onSome (listOf s y) fun es => ds.length + es.length ≤ sizeLine ∧ Q (.d (.list (ds ++ es))) s
theorem o_add : OpA X B (binaryOp .Add) addA := fun ad F H s σ x y u v Q r hx hy t => by
  have lists : ∀ {x : AVal} {u : V}, VOk ad F x u → (onSome (listOf s x) fun ds => onSome (listOf s y) fun es => ds.length + es.length ≤ sizeLine ∧ Q (.d (.list (ds ++ es))) s) → ∃ r, OpR X (binaryOp .Add) r ∧ r u v H (Post B ad F σ Q) := by
    rintro x u hx ⟨ds, e1, es, e2, hz, q⟩
    obtain ⟨l, vs, rfl, h1, h2⟩ := hx.list r e1
    obtain ⟨m, us, rfl, h3, h4⟩ := hy.list r e2
    exact ⟨_, op_cat, l, m, vs, us, rfl, rfl, h1, h3, by rw [h2.length, h4.length]; exact hz, fun p hp => .newD (d := .list (ds ++ es)) r hp ⟨p, _, rfl, upd_same, (h2.append h4).mono (same_upd (r.fh.free hp))⟩ q⟩
  unfold addA at t
  split at t
  · rename_i i
    obtain ⟨j, e, q⟩ := t
    have := AVal.int?_of e
    subst this
    exact ⟨_, op_add, i, j, hx, hy, .here (x := .d (.int (i + j))) r rfl q⟩
  · rename_i p
    obtain ⟨j, e, hz, q⟩ := t
    have := AVal.str?_of e
    subst this
    exact ⟨_, op_add_str, p, j, hx, hy, hz, .here (x := .d (.str (p ++ j))) r rfl q⟩
  · exact lists hx t
/-- + of lists, a new cell -/
def catN : AVal → AVal → TNA := fun x y s Q => onSome (listOf s x) fun ds => onSome (listOf s y) fun es => ds.length + es.length ≤ sizeLine ∧ Q (.lst (ds ++ es)) s
theorem o_cat : OpN X B (binaryOp .Add) catN := fun ad F H s σ x y u v Q r hx hy ⟨ds, e1, es, e2, hz, q⟩ => by
  obtain ⟨l, vs, rfl, h1, h2⟩ := hx.list r e1
  obtain ⟨m, us, rfl, h3, h4⟩ := hy.list r e2
  exact ⟨_, op_cat, l, m, vs, us, rfl, rfl, h1, h3, by rw [h2.length, h4.length]; exact hz, fun p hp => .here (c := .lst (ds ++ es)) r hp ⟨_, upd_same, h2.append h4⟩ rfl q⟩
/-- * of ints, of a list and an int -/
def repL (n : Int) (ds : List PyData) : List PyData := (List.replicate n.toNat ds).flatten
def mulA : AVal → AVal → TEA := fun x y s Q => match x with
  | .d (.int i) => onSome y.int? fun j => CMul i j ∧ Q (.d (.int (i * j))) s
  | x => onSome (listOf s x) fun ds => onSome y.int? fun n => (-(2 ^ 63) ≤ n ∧ n < 2 ^ 63 ∧ ds.length * n.toNat ≤ sizeLine) ∧ Q (.d (.list (repL n ds))) s
theorem o_mul : OpA X B (binaryOp .Mult) mulA := fun ad F H s σ x y u v Q r hx hy t => by
  have lists : ∀ {x : AVal} {u : V}, VOk ad F x u → (onSome (listOf s x) fun ds => onSome y.int? fun n => (-(2 ^ 63) ≤ n ∧ n < 2 ^ 63 ∧ ds.length * n.toNat ≤ sizeLine) ∧ Q (.d (.list (repL n ds))) s) → ∃ r, OpR X (binaryOp .Mult) r ∧ r u v H (Post B ad F σ Q) := by
    rintro x u hx ⟨ds, e1, n, e2, ⟨h1, h2, hz⟩, q⟩
    have := AVal.int?_of e2
    subst this
    obtain ⟨l, vs, rfl, h3, h4⟩ := hx.list r e1
    exact ⟨_, op_rep, l, n, vs, rfl, hy, h3, h1, h2, by rw [h4.length]; exact hz, fun p hp => .newD (d := .list (repL n ds)) r hp ⟨p, _, rfl, upd_same, (daAll_rep h4 _).mono (same_upd (r.fh.free hp))⟩ q⟩
  unfold mulA at t
  split at t
  · rename_i i
    obtain ⟨j, e, hc, q⟩ := t
    have := AVal.int?_of e
    subst this
    exact ⟨_, op_mul, i, j, hx, hy, hc, .here (x := .d (.int (i * j))) r rfl q⟩
  · exact lists hx t
def repN : AVal → AVal → TNA := fun x y s Q => onSome (listOf s x) fun ds => onSome y.int? fun n => (-(2 ^ 63) ≤ n ∧ n < 2 ^ 63 ∧ ds.length * n.toNat ≤ sizeLine) ∧ Q (.lst (repL n ds)) s
/-! ### comparisons -/
def intT (g : Int → Int → Bool) : AVal → AVal → TTA := fun x y s Q => onSome x.int? fun i => onSome y.int? fun j => Q (g i j) s
theorem opt_I {f : Value → Value → Sem Value} {g : Int → Int → Bool} (ho : OpR X f (rI0 fun i j => .bl (g i j))) : OpT X B f (intT g) := fun ad F H s σ x y u v Q r hx hy ⟨i, ei, j, ej, q⟩ => by
  have e1 := AVal.int?_of ei
  have e2 := AVal.int?_of ej
  subst e1; subst e2
  exact ⟨_, _, q, ho, fun K k => ⟨i, j, hx, hy, k⟩⟩
def leT : AVal → AVal → TTA := intT fun i j => decide (i ≤ j)
def gtT : AVal → AVal → TTA := intT fun i j => decide (j < i)
def geT : AVal → AVal → TTA := intT fun i j => decide (j ≤ i)
theorem o_gt : OpT X B (compareOp .Gt) gtT := opt_I op_gt
theorem o_ge : OpT X B (compareOp .GtE) geT := opt_I op_ge
def ltT : AVal → AVal → TTA := fun x y s Q => match x with
  | .d (.str p) => onSome y.str? fun q => Q (decide (p.cps.toList < q.cps.toList)) s
  | x => onSome x.int? fun i => onSome y.int? fun j => Q (decide (i < j)) s
theorem o_lt : OpT X B (compareOp .Lt) ltT := fun ad F H s σ x y u v Q r hx hy t => by
  unfold ltT at t
  split at t
  · obtain ⟨j, e, q⟩ := t
    have := AVal.str?_of e
    subst this
    exact ⟨_, _, q, op_lt_str, fun K k => ⟨_, j, hx, hy, k⟩⟩
  · obtain ⟨i, ei, j, ej, q⟩ := t
    have e1 := AVal.int?_of ei
    have e2 := AVal.int?_of ej
    subst e1; subst e2
    exact ⟨_, _, q, op_lt, fun K k => ⟨i, j, hx, hy, k⟩⟩
def eqOk : PyData → PyData → Prop
  | .int _, .int _ => True
  | .str _, .str _ => True
  | .bool _, .bool _ => True
  | d, e => SeqAt.shaped d = true ∧ SeqAt.shaped e = true
theorem lay_list0 {ds : List PyData} (h : (PyData.list ds).canLay0 = true) : PyData.canLayAll0 ds = true := by simpa [PyData.canLay0] using h
theorem lay_tup0 {ds : List PyData} (h : (PyData.tuple ds).canLay0 = true) : PyData.canLayAll0 ds = true := by simpa [PyData.canLay0] using h
mutual
theorem TrOk.dp {K : PySem.W.Frag} {F H : Hp} (s : Same F H) : ∀ {t : Tr} {v : V} {d : PyData}, TrOk F H t v → t.data? = some d → d.canLay0 = true → Dp K H v d
  | .d x, v, d, h, e, c => by cases e; exact (Da.mono s h).dp c
  | .nd k a xs, v, d, h, e, c => by
    obtain ⟨h0, vs, h1, _, h3⟩ := h.node
    subst h0
    cases k with
    | lst =>
      have e' : (Tr.datas? xs).map PyData.list = some d := e
      cases hd : Tr.datas? xs with
      | none => rw [hd] at e'; cases e'
      | some ds => rw [hd] at e'; cases e'; exact .lst (SqL.of h1) (TrAll.dp s h3 hd (lay_list0 c))
    | tup =>
      have e' : (Tr.datas? xs).map PyData.tuple = some d := e
      cases hd : Tr.datas? xs with
      | none => rw [hd] at e'; cases e'
      | some ds => rw [hd] at e'; cases e'; exact .tup (SqT.of h1) (TrAll.dp s h3 hd (lay_tup0 c))
    | dct ks =>
      have e' : (Tr.datas? xs).map (fun ds => dictD (ks.zip ds)) = some d := e
      cases hd : Tr.datas? xs with
      | none => rw [hd] at e'; cases e'
      | some ds => rw [hd] at e'; cases e'; simp [dictD, PyData.canLay0] at c
    | dctT _ => cases e
    | obj _ _ _ => cases e
theorem TrAll.dp {K : PySem.W.Frag} {F H : Hp} (s : Same F H) : ∀ {ts : List Tr} {vs : List V} {ds : List PyData}, TrAll F H ts vs → Tr.datas? ts = some ds → PyData.canLayAll0 ds = true → DpAll K H vs ds
  | [], vs, ds, h, e, _ => by cases e; obtain rfl := (show vs = [] from h); exact .nil
  | t :: ts, vs, ds, h, e, c => by
    obtain ⟨v, r, rfl, h1, h2⟩ := (show ∃ v r, vs = v :: r ∧ TrOk F H t v ∧ TrAll F H ts r from h)
    unfold Tr.datas? at e
    split at e
    · rename_i y ys h3 h4
      cases e
      have c' : y.canLay0 = true ∧ PyData.canLayAll0 ys = true := by simpa [PyData.canLayAll0] using c
      exact .cons (TrOk.dp s h1 h3 c'.1) (TrAll.dp s h2 h4 c'.2)
    · cases e
end
theorem data_node {k : Kd} {q : Addr} {xs : List Tr} {d : PyData} (e : Tr.data? (.nd k q xs) = some d) : (∃ ds, d = .list ds) ∨ (∃ ds, d = .tuple ds) ∨ ∃ kvs, d = .dict kvs := by
  cases k with
  | lst =>
    have e' : (Tr.datas? xs).map PyData.list = some d := e
    cases hd : Tr.datas? xs with
    | none => rw [hd] at e'; cases e'
    | some ds => rw [hd] at e'; cases e'; exact .inl ⟨_, rfl⟩
  | tup =>
    have e' : (Tr.datas? xs).map PyData.tuple = some d := e
    cases hd : Tr.datas? xs with
    | none => rw [hd] at e'; cases e'
    | some ds => rw [hd] at e'; cases e'; exact .inr (.inl ⟨_, rfl⟩)
  | dct ks =>
    have e' : (Tr.datas? xs).map (fun ds => dictD (ks.zip ds)) = some d := e
    cases hd : Tr.datas? xs with
    | none => rw [hd] at e'; cases e'
    | some ds => rw [hd] at e'; cases e'; exact .inr (.inr ⟨_, rfl⟩)
  | dctT _ => cases e
  | obj _ _ _ => cases e
theorem VOk.dp {ad : List Addr} {F H : Hp} {s : AS} {σ : St} {x : AVal} {v : V} {d : PyData} (r : Rl B ad F H s σ) (h : VOk ad F x v) (e : dataOf s x = some d) (hc : d.canLay0 = true) : Dp X.K H v d := by
  cases x with
  | s _ _ => cases e
  | d x => cases e; exact (Da.mono r.fh h).dp hc
  | r n =>
    obtain ⟨a, h1, rfl⟩ := h
    cases hq : s.cs[n]? with
    | none => simp [dataOf, hq] at e
    | some c =>
      have e' : cellD c = some d := by simpa [dataOf, hq] using e
      obtain ⟨n0, l, ok⟩ := r.cel n a c h1 hq
      cases c with
      | tr t => exact ok.2.dp r.fh e' hc
      | lst ds =>
        cases e'
        obtain ⟨vs, h2, h3⟩ := ok
        exact Da.dp (H := H) (d := .list ds) ⟨a, vs, rfl, h2, h3.mono r.fh⟩ hc
      | dK kvs => cases e'; simp [dictD, PyData.canLay0] at hc
      | fz y => cases e'; exact (Da.mono r.fh ok).dp hc
      | _ => cases e'
  | a p n pt =>
    simp only [dataOf] at e
    split at e
    · rename_i m pt' k q ys hn
      obtain ⟨t, p', vs, N⟩ := nodeAt_ok r h hn
      have := N.val
      subst this
      exact TrOk.dp r.fh (TrOk.of N.ho N.side N.kids) e hc
    · cases e
theorem eqv_sc {ad : List Addr} {F : Hp} {d e : PyData} {u v : V} (h1 : Da F d u) (h2 : Da F e v) (hs : (∃ i j, d = .int i ∧ e = .int j) ∨ (∃ i j, d = .str i ∧ e = .str j) ∨ ∃ i j, d = .bool i ∧ e = .bool j) : scal u v = true ∧ decide (u = v) = PyData.eqv d e := by
  rcases hs with ⟨i, j, rfl, rfl⟩ | ⟨i, j, rfl, rfl⟩ | ⟨i, j, rfl, rfl⟩
  · obtain rfl : u = .int i := h1
    obtain rfl : v = .int j := h2
    exact ⟨rfl, by simp [PyData.eqv, Bool.beq_eq_decide_eq, eq_comm]⟩
  · obtain rfl : u = .str i := h1
    obtain rfl : v = .str j := h2
    exact ⟨rfl, by simp [PyData.eqv, Bool.beq_eq_decide_eq, eq_comm]⟩
  · obtain rfl : u = .bl i := h1
    obtain rfl : v = .bl j := h2
    exact ⟨rfl, by simp [PyData.eqv, Bool.beq_eq_decide_eq, eq_comm]⟩
def eqT (neg : Bool) : AVal → AVal → TTA := fun x y s Q => onSome (dataOf s x) fun d => onSome (dataOf s y) fun e => eqOk d e ∧ Q (PyData.eqv d e != neg) s
theorem data_sc {ad : List Addr} {F H : Hp} {s : AS} {σ : St} {x : AVal} {v : V} {d : PyData} (r : Rl B ad F H s σ) (h : VOk ad F x v) (e : dataOf s x = some d) (hs : (∃ i, d = .int i) ∨ (∃ i, d = .str i) ∨ ∃ i, d = .bool i) : Da F d v := by
  cases x with
  | s _ _ => cases e
  | d x => cases e; exact h
  | r n =>
    obtain ⟨a, h1, rfl⟩ := h
    cases hq : s.cs[n]? with
    | none => simp [dataOf, hq] at e
    | some c =>
      have e' : cellD c = some d := by simpa [dataOf, hq] using e
      obtain ⟨n0, l, ok⟩ := r.cel n a c h1 hq
      cases c with
      | tr t => cases t with
        | d x => cases e'; exact ok.2
        | nd k q ys => rcases data_node (q := q) e' with ⟨_, rfl⟩ | ⟨_, rfl⟩ | ⟨_, rfl⟩ <;> simp at hs
      | fz y => cases e'; exact ok
      | lst ds => cases e'; rcases hs with ⟨i, z⟩ | ⟨i, z⟩ | ⟨i, z⟩ <;> cases z
      | dK ds => cases e'; rcases hs with ⟨i, z⟩ | ⟨i, z⟩ | ⟨i, z⟩ <;> cases z
      | _ => cases e'
  | a p n pt =>
    simp only [dataOf] at e
    split at e
    · rename_i m pt' k q ys hn
      rcases data_node e with ⟨_, rfl⟩ | ⟨_, rfl⟩ | ⟨_, rfl⟩ <;> simp at hs
    · cases e
theorem o_eq (hu : X.A.units + 64 < cLine) : OpT X B (compareOp .Eq) (eqT false) := fun ad F H s σ x y u v Q r hx hy ⟨d, e1, e, e2, ho, q⟩ => by
  rw [show (PyData.eqv d e != false) = PyData.eqv d e by simp] at q
  have sc : ((∃ i j, d = .int i ∧ e = .int j) ∨ (∃ i j, d = .str i ∧ e = .str j) ∨ ∃ i j, d = .bool i ∧ e = .bool j) → ∃ b r, Q b s ∧ OpR X (compareOp .Eq) r ∧ ∀ K : VK, K (.bl b) H → r u v H K := fun hs => by
    have h1 : Da F d u := data_sc r hx e1 (by rcases hs with ⟨i, j, rfl, rfl⟩ | ⟨i, j, rfl, rfl⟩ | ⟨i, j, rfl, rfl⟩ <;> simp)
    have h2 : Da F e v := data_sc r hy e2 (by rcases hs with ⟨i, j, rfl, rfl⟩ | ⟨i, j, rfl, rfl⟩ | ⟨i, j, rfl, rfl⟩ <;> simp)
    obtain ⟨h3, h4⟩ := eqv_sc (ad := ad) h1 h2 hs
    exact ⟨_, _, q, op_eq, fun K k => ⟨h3, by rw [h4]; exact k⟩⟩
  have dp : SeqAt.shaped d = true ∧ SeqAt.shaped e = true → ∃ b r, Q b s ∧ OpR X (compareOp .Eq) r ∧ ∀ K : VK, K (.bl b) H → r u v H K := fun ⟨s1, s2⟩ =>
    ⟨_, _, q, op_eqD hu, fun K k => ⟨d, e, hx.dp r e1 (SeqAt.canLay_of_shaped s1), hy.dp r e2 (SeqAt.canLay_of_shaped s2), s1, s2, k⟩⟩
  unfold eqOk at ho
  split at ho
  · exact sc (.inl ⟨_, _, rfl, rfl⟩)
  · exact sc (.inr (.inl ⟨_, _, rfl, rfl⟩))
  · exact sc (.inr (.inr ⟨_, _, rfl, rfl⟩))
  · exact dp ho
theorem o_ne (hu : X.A.units + 64 < cLine) : OpT X B (compareOp .NotEq) (eqT true) := fun ad F H s σ x y u v Q r hx hy ⟨d, e1, e, e2, ho, q⟩ => by
  rw [show (PyData.eqv d e != true) = !PyData.eqv d e by simp] at q
  have sc : ((∃ i j, d = .int i ∧ e = .int j) ∨ (∃ i j, d = .str i ∧ e = .str j) ∨ ∃ i j, d = .bool i ∧ e = .bool j) → ∃ b r, Q b s ∧ OpR X (compareOp .NotEq) r ∧ ∀ K : VK, K (.bl b) H → r u v H K := fun hs => by
    have h1 : Da F d u := data_sc r hx e1 (by rcases hs with ⟨i, j, rfl, rfl⟩ | ⟨i, j, rfl, rfl⟩ | ⟨i, j, rfl, rfl⟩ <;> simp)
    have h2 : Da F e v := data_sc r hy e2 (by rcases hs with ⟨i, j, rfl, rfl⟩ | ⟨i, j, rfl, rfl⟩ | ⟨i, j, rfl, rfl⟩ <;> simp)
    obtain ⟨h3, h4⟩ := eqv_sc (ad := ad) h1 h2 hs
    exact ⟨_, _, q, op_ne, fun K k => ⟨h3, by rw [h4]; exact k⟩⟩
  have dp : SeqAt.shaped d = true ∧ SeqAt.shaped e = true → ∃ b r, Q b s ∧ OpR X (compareOp .NotEq) r ∧ ∀ K : VK, K (.bl b) H → r u v H K := fun ⟨s1, s2⟩ =>
    ⟨_, _, q, op_neD hu, fun K k => ⟨d, e, hx.dp r e1 (SeqAt.canLay_of_shaped s1), hy.dp r e2 (SeqAt.canLay_of_shaped s2), s1, s2, k⟩⟩
  unfold eqOk at ho
  split at ho
  · exact sc (.inl ⟨_, _, rfl, rfl⟩)
  · exact sc (.inr (.inl ⟨_, _, rfl, rfl⟩))
  · exact sc (.inr (.inr ⟨_, _, rfl, rfl⟩))
  · exact dp ho
end
end Kr
/-! layer A6 -/
namespace Kr
open PySem L2
/-! ## defs -/
inductive RV where
  | f (x : PyData)
  | n (c : Cell)
  /-- a new tree; a cell that was handed in -/
  | t (t : Tr)
  | p (k : Nat)
  /-- a tuple that is taken apart: its parts, among them new cells -/
  | u (xs : List AVal) (new : List Cell)
abbrev SpT := List AVal → List Cell → (RV → List Cell → Prop) → Prop
def refsOf : List AVal → List Nat
  | [] => []
  | .r n :: xs => n :: refsOf xs
  | .d _ :: xs => refsOf xs
  | .s _ _ :: xs => refsOf xs
  | .a _ n _ :: xs => n :: refsOf xs
def ren (ns : List Nat) : AVal → AVal
  | .r n => .r (ns.idxOf n)
  | .a p n pt => .a p (ns.idxOf n) pt
  | x => x
def putC (cs : List Cell) : List Nat → List Cell → List Cell
  | n :: ns, c :: ds => putC (cs.set n c) ns ds
  | _, _ => cs
/-- the new cells of a tuple's parts, and the parts by them -/
def newsOf (m : Nat) (xs : List AVal) : List Nat := (refsOf xs).filter fun n => decide (m ≤ n)
def partN (m : Nat) (ns : List Nat) : AVal → AVal
  | .r n => if n < m then .r n else .r (m + ns.idxOf n)
  | x => x
def parts (m : Nat) (cs : List Cell) (P : RV → List Cell → Prop) (xs : List AVal) : Prop := (newsOf m xs).Nodup ∧ onSome (subC cs (newsOf m xs)) fun new => new.all Cell.flat = true ∧ P (.u (xs.map (partN m (newsOf m xs))) new) (cs.take m)
def Cell.pass : Cell → Bool
  | .gone => false
  | c => c.flat
theorem pass_flat {c : Cell} (h : c.pass = true) : c.flat = true := by
  cases c with
  | gone => cases h
  | _ => exact h
theorem pass_gone {c : Cell} (h : c.pass = true) : c ≠ .gone := fun e => by subst e; cases h
def RPost (ad : List Addr) (F H : Hp) (T : List Addr) (P : RV → List Cell → Prop) : VK := fun v H2 =>
  (∃ F2 x cs2, Rl (Bs.at ad F H T) ad F2 H2 ⟨[], cs2⟩ [] ∧ (∀ c ∈ cs2, c.flat = true) ∧ Da F2 x v ∧ P (.f x) cs2) ∨
  (∃ F2 c cs2 p H1 o, Rl (Bs.at ad F H T) ad F2 H1 ⟨[], cs2⟩ [] ∧ (∀ c ∈ cs2, c.flat = true) ∧ v = .ref p ∧ H1 p = none ∧ H2 = upd H1 p o ∧ COk ad F2 H2 p c ∧ c.live = true ∧ c.flat = true ∧ P (.n c) cs2) ∨
  (∃ F2 t cs2 p, Rl (Bs.at ad F H T) (ad ++ [p]) F2 H2 ⟨[], cs2 ++ [.tr t]⟩ [] ∧ (∀ c ∈ cs2, c.flat = true) ∧ v = .ref p ∧ P (.t t) cs2) ∨
  (∃ F2 cs2 k p, Rl (Bs.at ad F H T) ad F2 H2 ⟨[], cs2⟩ [] ∧ (∀ c ∈ cs2, c.flat = true) ∧ ad[k]? = some p ∧ v = .ref p ∧ P (.p k) cs2) ∨
  (∃ F2 cs2 new ex xs vs p, Rl (Bs.at ad F H T) (ad ++ ex) F2 H2 ⟨[], cs2 ++ new⟩ [] ∧ cs2.length = ad.length ∧ (∀ c ∈ cs2 ++ new, c.flat = true) ∧ v = .ref p ∧ H2 p = some (.tup vs) ∧ Paired (VOk (ad ++ ex) F2) xs vs ∧ P (.u xs new) cs2)
def spA (n : Nat) (t : SpT) : Sp := fun vs H Q _ => ∃ F ad cs xs P, vs.length = n ∧ Rl (Bs.at ad F H (cs.flatMap Cell.ads)) ad F H ⟨[], cs⟩ [] ∧ Paired (VOk ad F) xs vs ∧ t xs cs P ∧ ∀ v H2, RPost ad F H (cs.flatMap Cell.ads) P v H2 → Q v H2
def retP (m : Nat) (P : RV → List Cell → Prop) (x : AVal) (s : AS) : Prop := (s.cs.take m).all Cell.flat = true ∧ match x with
  | .d y => P (.f y) (s.cs.take m)
  | .r n => if n < m then P (.p n) (s.cs.take m) else onSome s.cs[n]? fun c => match c with
    | .fz y => P (.f y) (s.cs.take m)
    | .tr t => P (.t t) (s.cs.take m)
    | .nt xs => parts m s.cs P xs
    | c => c.live = true ∧ c.flat = true ∧ P (.n c) (s.cs.take m)
  | .s _ _ => False
  | .a _ _ _ => False
def retD (m : Nat) (P : RV → List Cell → Prop) : DA := ⟨retP m P (.d .none), retP m P, fun _ => False, fun _ => False⟩
def bodyT (k : Nat) (t : Nat → TSA) : SpT := fun xs cs P => t cs.length (retD cs.length P) ⟨xs.map some ++ List.replicate k none, cs⟩
theorem Rl.cells {B : Bs} {ad : List Addr} {F H : Hp} {s : AS} {σ : St} (r : Rl B ad F H s σ) (hf : ∀ c ∈ s.cs.take B.S.length, c.flat = true) : Rl B B.S F H ⟨[], s.cs.take B.S.length⟩ [] := by
  obtain ⟨ad', e, h1⟩ := r.pre
  have hl : B.S.length ≤ s.cs.length := by rw [← r.len, e]; simp
  have inn := r.inn.take (List.take_append_drop B.S.length s.cs).symm
  rw [List.length_take, Nat.min_eq_left hl, e, List.take_left'] at inn
  · refine ⟨r.ff, r.fh, r.hh, r.al, r.new, ⟨[], by simp, (fun _ h => nomatch h)⟩, ?_, by rw [List.length_take]; omega, fun i p c h2 h3 => ?_, rfl, fun k x h => by simp at h, inn⟩
    · have := r.nd
      rw [e] at this
      exact (List.nodup_append.mp this).1
    · have hi : i < B.S.length := (List.getElem?_eq_some_iff.mp h2).1
      obtain ⟨n, l, ok⟩ := r.cel i p c (by rw [e, List.getElem?_append_left hi]; exact h2) (by rw [List.getElem?_take_of_lt hi] at h3; exact h3)
      exact ⟨n, l, ok.flat (hf c (List.mem_of_getElem? h3))⟩
  · rfl
theorem flat_two {cs : List Cell} {n m : Nat} {c : Cell} (hc : cs[n]? = some c) (hn : m ≤ n) : ((cs.take m ++ [c]).flatMap Cell.ads).Sublist (cs.flatMap Cell.ads) := by
  have e : cs = cs.take m ++ cs.drop m := (List.take_append_drop m cs).symm
  have hd : (cs.drop m)[n - m]? = some c := by rw [List.getElem?_drop, show m + (n - m) = n by omega]; exact hc
  have hs : [c].Sublist (cs.drop m) := List.singleton_sublist.mpr (List.mem_of_getElem? hd)
  have : (cs.take m ++ [c]).Sublist cs := by
    conv => rhs; rw [e]
    exact List.Sublist.append (List.Sublist.refl _) hs
  exact sublist_flatMap this
/-- the cells handed in, and one of our own -/
theorem Rl.cells2 {B : Bs} {ad : List Addr} {F H : Hp} {s : AS} {σ : St} {n : Nat} {p : Addr} {c : Cell} (r : Rl B ad F H s σ) (hf : ∀ c ∈ s.cs.take B.S.length, c.flat = true) (hn : B.S.length ≤ n) (hp : ad[n]? = some p) (hc : s.cs[n]? = some c) (hcf : c.flat = true) : Rl B (B.S ++ [p]) F H ⟨[], s.cs.take B.S.length ++ [c]⟩ [] := by
  obtain ⟨ad', e, h1⟩ := r.pre
  have hl : B.S.length ≤ s.cs.length := by rw [← r.len, e]; simp
  have hpa : p ∈ ad' := by
    rw [e, List.getElem?_append_right hn] at hp
    exact List.mem_of_getElem? hp
  have hp0 := h1 p hpa
  have sub := flat_two hc hn
  refine ⟨r.ff, r.fh, r.hh, r.al, r.new, ⟨[p], rfl, fun b hb => by rw [List.mem_singleton] at hb; exact hb ▸ hp0⟩, ?_, by simp [List.length_take]; omega, fun i q d h2 h3 => ?_, rfl, fun k x h => by simp at h, ⟨r.inn.nd.sublist sub, fun q hq i hi => ?_, fun q hq => r.inn.fr q (sub.subset hq), fun q hq => r.inn.own q (sub.subset hq), r.inn.old⟩⟩
  · have nd := r.nd
    rw [e] at nd
    rw [List.nodup_append] at nd ⊢
    exact ⟨nd.1, List.nodup_cons.mpr ⟨(fun h => nomatch h), List.nodup_nil⟩, fun a ha b hb => by
      rw [List.mem_singleton] at hb; subst hb
      exact nd.2.2 a ha b hpa⟩
  · by_cases hi : i < B.S.length
    · rw [List.getElem?_append_left hi] at h2
      rw [List.getElem?_append_left (by rw [List.length_take]; omega)] at h3
      obtain ⟨n, l, ok⟩ := r.cel i q d (by rw [e, List.getElem?_append_left hi]; exact h2) (by rw [List.getElem?_take_of_lt hi] at h3; exact h3)
      exact ⟨n, l, ok.flat (hf d (List.mem_of_getElem? h3))⟩
    · rw [List.getElem?_append_right (by omega)] at h2
      rw [List.getElem?_append_right (by rw [List.length_take]; omega)] at h3
      have e1 : q = p := by have := List.mem_of_getElem? h2; simpa using this
      have e2 : d = c := by have := List.mem_of_getElem? h3; simpa using this
      subst e1; subst e2
      obtain ⟨n, l, ok⟩ := r.cel n q d hp hc
      exact ⟨n, l, ok.flat hcf⟩
  · by_cases hi2 : i < B.S.length
    · rw [List.getElem?_append_left hi2] at hi
      have := r.inn.off q (sub.subset hq) i (by rw [e, List.getElem?_append_left hi2]; exact hi)
      rw [List.getElem?_append_left (by rw [List.length_take]; omega), List.getElem?_take_of_lt hi2]
      exact this
    · have hi3 : i = B.S.length := by
        have := (List.getElem?_eq_some_iff.mp hi).1
        rw [List.length_append, List.length_singleton] at this
        omega
      subst hi3
      rw [List.getElem?_append_right (Nat.le_refl _)] at hi
      have e1 : q = p := by have := List.mem_of_getElem? hi; simpa using this
      subst e1
      have := r.inn.off q (sub.subset hq) n hp
      rw [hc] at this
      rw [List.getElem?_append_right (by rw [List.length_take]; omega), List.length_take, Nat.min_eq_left hl, Nat.sub_self]
      simpa using this
theorem Rl.cellsN {B : Bs} {ad : List Addr} {F H : Hp} {s : AS} {σ : St} {ns : List Nat} {new : List Cell} (r : Rl B ad F H s σ) (hf : ∀ c ∈ s.cs.take B.S.length, c.flat = true) (nd : ns.Nodup) (hn : ∀ n ∈ ns, B.S.length ≤ n) (hs : subC s.cs ns = some new) (hnf : ∀ c ∈ new, c.flat = true) :
    ∃ ex, (∀ (j : Nat) n, ns[j]? = some n → ex[j]? = ad[n]?) ∧ ex.length = ns.length ∧ Rl B (B.S ++ ex) F H ⟨[], s.cs.take B.S.length ++ new⟩ [] := by
  obtain ⟨h1, h2⟩ := subC_ok hs
  obtain ⟨n1, n2⟩ := flat_nd.mp r.inn.nd
  obtain ⟨ad', e, hpre⟩ := r.pre
  have hl : B.S.length ≤ s.cs.length := by rw [← r.len, e]; simp
  have ex0 : ∀ ms : List Nat, (∀ n ∈ ms, n < ad.length) → ∃ ex : List Addr, ex.length = ms.length ∧ ∀ (j : Nat) n, ms[j]? = some n → ex[j]? = ad[n]? := by
    intro ms
    induction ms with
    | nil => intro _; exact ⟨[], rfl, fun j n h => by simp at h⟩
    | cons m ms ih =>
      intro h
      obtain ⟨a', l', e'⟩ := ih fun n hn => h n (List.mem_cons_of_mem _ hn)
      have hm := h m (List.mem_cons_self ..)
      refine ⟨ad[m] :: a', by simp [l'], fun j n hj => ?_⟩
      cases j with
      | zero =>
        have : m = n := by simpa using hj
        subst this
        simp [List.getElem?_eq_getElem hm]
      | succ j => simpa using e' j n (by simpa using hj)
  have hlt : ∀ n ∈ ns, n < ad.length := fun n hn => by
    obtain ⟨j, hj⟩ := List.mem_iff_getElem?.mp hn
    rw [r.len]; exact (h2 j n hj).2
  obtain ⟨ex, lx, hx⟩ := ex0 ns hlt
  refine ⟨ex, hx, lx, ?_⟩
  -- where an index comes from
  have from' : ∀ i, i < B.S.length + ns.length → ∃ i', (B.S ++ ex)[i]? = ad[i']? ∧ (s.cs.take B.S.length ++ new)[i]? = s.cs[i']? ∧ ((i < B.S.length ∧ i' = i) ∨ (B.S.length ≤ i ∧ ns[i - B.S.length]? = some i')) := by
    intro i hi
    by_cases him : i < B.S.length
    · refine ⟨i, ?_, ?_, .inl ⟨him, rfl⟩⟩
      · rw [List.getElem?_append_left him, e, List.getElem?_append_left him]
      · rw [List.getElem?_append_left (by rw [List.length_take]; omega), List.getElem?_take_of_lt him]
    · have hj : ns[i - B.S.length]? = some (ns[i - B.S.length]'(by omega)) := List.getElem?_eq_getElem (by omega)
      refine ⟨_, ?_, ?_, .inr ⟨by omega, hj⟩⟩
      · rw [List.getElem?_append_right (by omega), hx _ _ hj]
      · rw [List.getElem?_append_right (by rw [List.length_take]; omega), List.length_take, Nat.min_eq_left hl, (h2 _ _ hj).1]
  have inj : ∀ i j i', ((i < B.S.length ∧ i' = i) ∨ (B.S.length ≤ i ∧ ns[i - B.S.length]? = some i')) → ((j < B.S.length ∧ i' = j) ∨ (B.S.length ≤ j ∧ ns[j - B.S.length]? = some i')) → i = j := by
    intro i j i' h h'
    rcases h with ⟨h, e1⟩ | ⟨h, e1⟩ <;> rcases h' with ⟨h', e2⟩ | ⟨h', e2⟩
    · omega
    · have := hn i' (List.mem_of_getElem? e2); omega
    · have := hn i' (List.mem_of_getElem? e1); omega
    · have := (List.getElem?_inj (List.getElem?_eq_some_iff.mp e1).1 nd).mp (e1.trans e2.symm)
      omega
  have lenC : (s.cs.take B.S.length ++ new).length = B.S.length + ns.length := by rw [List.length_append, List.length_take, h1]; omega
  have lenA : (B.S ++ ex).length = B.S.length + ns.length := by rw [List.length_append, lx]
  have look : ∀ (i : Nat) c, (s.cs.take B.S.length ++ new)[i]? = some c → ∃ i', (B.S ++ ex)[i]? = ad[i']? ∧ s.cs[i']? = some c ∧ ((i < B.S.length ∧ i' = i) ∨ (B.S.length ≤ i ∧ ns[i - B.S.length]? = some i')) := fun i c hc => by
    have hi := (List.getElem?_eq_some_iff.mp hc).1
    obtain ⟨i', e1, e2, e3⟩ := from' i (by omega)
    exact ⟨i', e1, by rw [← e2]; exact hc, e3⟩
  have up : ∀ q, q ∈ (s.cs.take B.S.length ++ new).flatMap Cell.ads → q ∈ s.cs.flatMap Cell.ads := fun q hq => by
    obtain ⟨c, hc, hq⟩ := List.mem_flatMap.mp hq
    obtain ⟨i, hi⟩ := List.mem_iff_getElem?.mp hc
    obtain ⟨i', _, e2, _⟩ := look i c hi
    exact mem_ads e2 hq
  refine ⟨r.ff, r.fh, r.hh, r.al, r.new, ⟨ex, rfl, fun b hb => ?_⟩, ?_, by rw [lenA]; exact lenC.symm, fun i p c h3 h4 => ?_, rfl, fun k x h => by simp at h, ⟨flat_nd.mpr ⟨fun i c hc => ?_, fun i j c d q hc hd hqc hqd => ?_⟩, fun q hq i hi => ?_, fun q hq => r.inn.fr q (up q hq), fun q hq => r.inn.own q (up q hq), r.inn.old⟩⟩
  · obtain ⟨j, hj⟩ := List.mem_iff_getElem?.mp hb
    have hjl := (List.getElem?_eq_some_iff.mp hj).1
    have hj2 : ns[j]? = some (ns[j]'(by omega)) := List.getElem?_eq_getElem (by omega)
    rw [hx j _ hj2, e, List.getElem?_append_right (hn _ (List.mem_of_getElem? hj2))] at hj
    exact hpre b (List.mem_of_getElem? hj)
  · rw [List.nodup_iff_pairwise_ne, List.pairwise_iff_getElem]
    intro i j hi hj hij ee
    obtain ⟨i', a1, _, a3⟩ := from' i (by omega)
    obtain ⟨j', b1, _, b3⟩ := from' j (by omega)
    have g1 : ad[i']? = some (B.S ++ ex)[i] := by rw [← a1]; exact List.getElem?_eq_getElem hi
    have g2 : ad[j']? = some (B.S ++ ex)[i] := by rw [← b1, ee]; exact List.getElem?_eq_getElem hj
    have := nodup_get r.nd g1 g2
    subst this
    have := inj i j i' a3 b3
    omega
  · have h4 : (s.cs.take B.S.length ++ new)[i]? = some c := h4
    obtain ⟨i', e1, e2, _⟩ := look i c h4
    rw [e1] at h3
    obtain ⟨g1, g2, g3⟩ := r.cel i' p c h3 e2
    refine ⟨g1, g2, g3.flat ?_⟩
    rcases List.mem_append.mp (List.mem_of_getElem? h4) with h | h
    · exact hf c h
    · exact hnf c h
  · obtain ⟨i', _, e2, _⟩ := look i c hc
    exact n1 i' c e2
  · obtain ⟨i', _, e2, e3⟩ := look i c hc
    obtain ⟨j', _, f2, f3⟩ := look j d hd
    have := n2 i' j' c d q e2 f2 hqc hqd
    subst this
    exact inj i j i' e3 f3
  · have hil := (List.getElem?_eq_some_iff.mp hi).1
    obtain ⟨i', e1, e2, _⟩ := from' i (by omega)
    rw [e1] at hi
    have := r.inn.off q (up q hq) i' hi
    rw [← e2] at this
    exact this
theorem mem_refs {n : Nat} : ∀ {xs : List AVal}, AVal.r n ∈ xs → n ∈ refsOf xs
  | .r m :: xs, h => by
    rcases List.mem_cons.mp h with e | h
    · cases e; exact List.mem_cons_self ..
    · exact List.mem_cons_of_mem _ (mem_refs h)
  | .d _ :: xs, h => by
    rcases List.mem_cons.mp h with e | h
    · cases e
    · exact mem_refs (xs := xs) h
  | .s _ _ :: xs, h => by
    rcases List.mem_cons.mp h with e | h
    · cases e
    · exact mem_refs (xs := xs) h
  | .a _ _ _ :: xs, h => by
    rcases List.mem_cons.mp h with e | h
    · cases e
    · exact List.mem_cons_of_mem _ (mem_refs (xs := xs) h)
theorem paired_part {ad ad2 ex : List Addr} {F : Hp} {m : Nat} {ns : List Nat} (hm : m = ad.length) (e : ∃ ad', ad2 = ad ++ ad') (hx : ∀ (j : Nat) n, ns[j]? = some n → ex[j]? = ad2[n]?) : ∀ {xs : List AVal} {vs : List V}, (∀ n, AVal.r n ∈ xs → m ≤ n → n ∈ ns) → Paired (VOk ad2 F) xs vs → Paired (VOk (ad ++ ex) F) (xs.map (partN m ns)) vs
  | [], _, _, .nil => .nil
  | x :: xs, _, hn, .cons h t => by
    refine .cons ?_ (paired_part hm e hx (fun n hx => hn n (List.mem_cons_of_mem _ hx)) t)
    cases x with
    | d y => exact h
    | s _ _ => exact h
    | a _ _ _ => exact h
    | r n =>
      obtain ⟨a, h1, h2⟩ := h
      show VOk (ad ++ ex) F (if n < m then .r n else .r (m + ns.idxOf n)) _
      split
      · rename_i hlt
        obtain ⟨ad', rfl⟩ := e
        refine ⟨a, ?_, h2⟩
        rw [List.getElem?_append_left (by omega)] at h1 ⊢
        exact h1
      · rename_i hlt
        have hmem := hn n (List.mem_cons_self ..) (by omega)
        have hil := List.idxOf_lt_length_of_mem hmem
        have e2 : ns[ns.idxOf n]? = some n := by rw [List.getElem?_eq_getElem hil, List.getElem_idxOf]
        refine ⟨a, ?_, h2⟩
        rw [hm, List.getElem?_append_right (by omega), Nat.add_sub_cancel_left, hx _ n e2]
        exact h1
theorem ret_post {ad ad2 : List Addr} {F H F2 H2 : Hp} {s : AS} {σ : St} {x : AVal} {v : V} {P : RV → List Cell → Prop} {m : Nat} {T : List Addr} (hm : m = ad.length) (r : Rl (Bs.at ad F H T) ad2 F2 H2 s σ) (hv : VOk ad2 F2 x v) (h : retP m P x s) : RPost ad F H T P v H2 := by
  subst hm
  obtain ⟨hf, h⟩ := h
  have hf := List.all_eq_true.mp hf
  have rc := r.cells hf
  cases x with
  | s _ _ => exact h.elim
  | a _ _ _ => exact h.elim
  | d y => exact .inl ⟨F2, y, _, rc, hf, hv, h⟩
  | r n =>
    obtain ⟨p, hp, rfl⟩ := hv
    simp only at h
    split at h
    · rename_i hn
      obtain ⟨ad', e, h4⟩ := r.pre
      refine .inr (.inr (.inr (.inl ⟨F2, _, n, p, rc, hf, ?_, rfl, h⟩)))
      rw [e] at hp
      have hp : (ad ++ ad')[n]? = some p := hp
      rw [List.getElem?_append_left hn] at hp
      exact hp
    · rename_i hn
      have hn : ad.length ≤ n := by omega
      obtain ⟨c, hc, h⟩ := h
      obtain ⟨n0, l, ok⟩ := r.cel n p c hp hc
      have fz : ∀ y, c = .fz y → P (.f y) (s.cs.take ad.length) → RPost ad F H T P (.ref p) H2 := fun y e h => by
        subst e
        exact .inl ⟨F2, y, _, rc, hf, ok, h⟩
      have nw : c.live = true ∧ c.flat = true ∧ P (.n c) (s.cs.take ad.length) → RPost ad F H T P (.ref p) H2 := fun ⟨h1, h2, h3⟩ => by
        obtain ⟨ad', e, h4⟩ := r.pre
        have hpS : p ∉ ad := fun z => by
          have nd := r.nd
          rw [e] at nd hp
          have hp2 : (ad ++ ad')[n]? = some p := hp
          rw [List.getElem?_append_right hn] at hp2
          exact (List.nodup_append.mp nd).2.2 p z p (List.mem_of_getElem? hp2) rfl
        have hp0 : H p = none := by
          have hp2 : (ad ++ ad')[n]? = some p := by rw [e] at hp; exact hp
          rw [List.getElem?_append_right hn] at hp2
          exact h4 p (List.mem_of_getElem? hp2)
        have hpI : p ∉ (s.cs.take ad.length).flatMap Cell.ads := fun z => by
          have z2 : p ∈ s.cs.flatMap Cell.ads := by
            rw [← List.take_append_drop ad.length s.cs, List.flatMap_append]
            exact List.mem_append_left _ z
          rcases r.inn.off p z2 n hp with q | ⟨t, q, _⟩
          · rw [hc] at q; cases q; cases h1
          · rw [hc] at q; cases q; cases h1
        have hpT : p ∉ T := fun z => r.inn.old p z hp0
        · obtain ⟨o, ho⟩ := some_of_ne n0
          exact .inr (.inl ⟨F2, c, _, p, out H2 p, o, rc.aout hpS (l h1) hp0 hpI hpT, hf, rfl, out_same, (upd_out ho).symm, ok.flat h2, h1, h2, h3⟩)
      cases c with
      | fz y => exact fz y rfl h
      | lst _ => exact nw h
      | dK _ => exact nw h
      | pool _ => exact nw h
      | gone => exact nw h
      | nl _ => exact nw h
      | nt xs =>
        obtain ⟨ndn, new, hs, hnf, h⟩ := h
        obtain ⟨vs, hvs, hpv⟩ := ok
        have hge : ∀ k ∈ newsOf ad.length xs, ad.length ≤ k := fun k hk => of_decide_eq_true (List.mem_filter.mp hk).2
        obtain ⟨ex, hx, lx, rx⟩ := r.cellsN hf ndn hge hs (List.all_eq_true.mp hnf)
        obtain ⟨ad', e, _⟩ := r.pre
        refine .inr (.inr (.inr (.inr ⟨F2, _, new, ex, _, vs, p, rx, ?_, ?_, rfl, hvs, paired_part rfl ⟨ad', e⟩ hx (fun k hk hm => List.mem_filter.mpr ⟨mem_refs hk, decide_eq_true hm⟩) hpv, h⟩)))
        · rw [List.length_take, ← r.len, e]; simp
        · intro c hc
          rcases List.mem_append.mp hc with hc | hc
          · exact hf c hc
          · exact List.all_eq_true.mp hnf c hc
      | nd _ => exact nw h
      | dl _ _ _ => exact nw h
      | tr t => exact .inr (.inr (.inl ⟨F2, t, _, p, r.cells2 hf hn hp hc rfl, hf, rfl, h⟩))
section
variable {P : Program} {w : World} {K : PySem.W.Frag} {mg : Str → Option Value} {base : Heap}
theorem paired_slots {ad : List Addr} {F : Hp} {xs : List AVal} {vs : List V} {k : Nat} (h : Paired (VOk ad F) xs vs) : ∀ (j : Nat) (x : AVal), (xs.map some ++ List.replicate k none)[j]? = some (some x) → ∃ v, (vs.map some ++ List.replicate k none)[j]? = some (some v) ∧ VOk ad F x v := by
  intro j x hj
  have hl := Paired.len h
  by_cases hlt : j < xs.length
  · rw [List.getElem?_append_left (by simpa using hlt), List.getElem?_map] at hj
    rw [List.getElem?_append_left (by simp; omega), List.getElem?_map]
    cases hx : xs[j]? with
    | none => rw [hx] at hj; cases hj
    | some y =>
      rw [hx] at hj
      have : y = x := by simpa using hj
      subst this
      obtain ⟨v, h1, h2⟩ := Paired.get h hx
      exact ⟨v, by rw [h1]; rfl, h2⟩
  · rw [List.getElem?_append_right (by simp; omega)] at hj
    rw [List.getElem?_replicate] at hj
    split at hj <;> cases hj
theorem okA {x qual : Str} {st : Stmt} {f : Addr} {fd : FuncData} {N ps : List Str} {k : Nat} {t : Nat → TSA} (Fn : Fun K x qual st f fd) (S : FnScope N ps (defScope st))
    (hbody : ∀ (cdv : Value) (A : Around) (outer : List Env) (s : Shared) (H : Hp) (E : XK) (B : Bs), Room k (A.deeper (PyProof.Rows.envOfC qual (defScope st) s.heap.objs.size f cdv)) → SS (cxOf CX0 P w K mg base N qual (defScope st) f cdv A outer s H E).nox B (defBody st) (t B.S.length)) :
    FnOk P w K mg base CX0 (k + 1) f fd ps (spA ps.length (bodyT (N.length - ps.length) t)) :=
  okW Fn S (fun vs H Q E ⟨F, ad, cs, xs, P, hl, _⟩ => hl) fun cdv A outer s H vs Q E hr ⟨F, ad, cs, xs, P, hl, r, hp, ht, q⟩ => by
    have hsl : Rl (Bs.at ad F H (cs.flatMap Cell.ads)) ad F H ⟨xs.map some ++ List.replicate (N.length - ps.length) none, cs⟩ (start N vs) := by
      refine ⟨r.ff, r.fh, r.hh, r.al, r.new, r.pre, r.nd, r.len, r.cel, ?_, ?_, r.inn⟩
      · unfold L2.start
        simp [Paired.len hp, hl]
      · unfold L2.start
        rw [hl]
        exact paired_slots hp
    have hm : cs.length = ad.length := r.len.symm
    intro pins sh I
    have ht' : t ad.length (retD cs.length P) ⟨xs.map some ++ List.replicate (N.length - ps.length) none, cs⟩ := by rw [← hm]; exact ht
    refine thn ((hbody cdv A outer s H E (Bs.at ad F H (cs.flatMap Cell.ads)) hr).run _ _ ht' ad F H _ hsl pins sh I) fun fl s' z => ?_
    cases fl with
    | next =>
      obtain ⟨σ2, H2, I2, ad2, F2, s2, r2, h2⟩ := z
      exact ⟨σ2, H2, I2, q .non H2 (ret_post hm r2 (x := .d .none) rfl h2)⟩
    | brk => obtain ⟨σ2, H2, I2, ad2, F2, s2, r2, h2⟩ := z; exact h2.elim
    | cont => obtain ⟨σ2, H2, I2, ad2, F2, s2, r2, h2⟩ := z; exact h2.elim
    | ret u =>
      obtain ⟨v, σ2, H2, I2, rv, ad2, F2, x2, s2, σ3, r2, hv, h2⟩ := z
      exact ⟨v, σ2, H2, I2, rv, q v H2 (ret_post hm r2 hv h2)⟩
end
/-! ## calls -/
theorem putC_len : ∀ (ns : List Nat) (ds cs : List Cell), (putC cs ns ds).length = cs.length
  | [], ds, cs => by simp [putC]
  | n :: ns, [], cs => by simp [putC]
  | n :: ns, c :: ds, cs => by simp [putC, putC_len ns ds]
theorem putC_ne : ∀ {ns : List Nat} {ds cs : List Cell} {i : Nat}, i ∉ ns → (putC cs ns ds)[i]? = cs[i]?
  | [], ds, cs, i, h => by simp [putC]
  | n :: ns, [], cs, i, h => by simp [putC]
  | n :: ns, c :: ds, cs, i, h => by
    have h1 : i ≠ n := fun z => h (by simp [z])
    show (putC (cs.set n c) ns ds)[i]? = _
    rw [putC_ne (fun z => h (List.mem_cons_of_mem _ z)), List.getElem?_set_ne (fun z => h1 z.symm)]
theorem putC_at : ∀ {ns : List Nat} {ds cs : List Cell} {j n : Nat}, ns.Nodup → ds.length = ns.length → n < cs.length → ns[j]? = some n → (putC cs ns ds)[n]? = ds[j]?
  | [], ds, cs, j, n, _, _, _, h => by simp at h
  | m :: ns, [], cs, j, n, _, hl, _, h => by simp at hl
  | m :: ns, c :: ds, cs, j, n, nd, hl, hlt, h => by
    have nd' := List.nodup_cons.mp nd
    show (putC (cs.set m c) ns ds)[n]? = _
    cases j with
    | zero =>
      have : m = n := by simpa using h
      subst this
      rw [putC_ne nd'.1, List.getElem?_set_self hlt]; rfl
    | succ j =>
      simpa using putC_at (j := j) nd'.2 (by simpa using hl) (by simpa using hlt) (by simpa using h)
def callW (t : SpT) (xs : List AVal) (s : AS) (P : RV → AS → Prop) : Prop :=
  (refsOf xs).Nodup ∧ onSome (subC s.cs (refsOf xs)) fun cs => cs.all Cell.pass = true ∧ t (xs.map (ren (refsOf xs))) cs fun rv cs2 => cs2.length = cs.length → P rv ⟨s.sl, putC s.cs (refsOf xs) cs2⟩
theorem refs_mem {n : Nat} : ∀ {xs : List AVal}, AVal.r n ∈ xs → n ∈ refsOf xs
  | .r m :: xs, h => by
    rcases List.mem_cons.mp h with e | h
    · cases e; exact List.mem_cons_self ..
    · exact List.mem_cons_of_mem _ (refs_mem h)
  | .d _ :: xs, h => by
    rcases List.mem_cons.mp h with e | h
    · cases e
    · exact refs_mem (xs := xs) h
  | .s _ _ :: xs, h => by
    rcases List.mem_cons.mp h with e | h
    · cases e
    · exact refs_mem (xs := xs) h
  | .a _ _ _ :: xs, h => by
    rcases List.mem_cons.mp h with e | h
    · cases e
    · exact List.mem_cons_of_mem _ (refs_mem (xs := xs) h)
theorem Rl.sub {B : Bs} {ad : List Addr} {F H : Hp} {s : AS} {σ : St} (r : Rl B ad F H s σ) {ns : List Nat} {cs : List Cell} (nd : ns.Nodup) (hs : subC s.cs ns = some cs) (hf : ∀ c ∈ cs, c.flat = true) :
    ∃ ad', ad'.length = ns.length ∧ (∀ (j : Nat) n, ns[j]? = some n → ad'[j]? = ad[n]?) ∧ (∀ b ∈ ad', b ∈ ad) ∧ Rl (Bs.at ad' F H (cs.flatMap Cell.ads)) ad' F H ⟨[], cs⟩ [] := by
  obtain ⟨h1, h2⟩ := subC_ok hs
  have ex : ∀ ms : List Nat, (∀ n ∈ ms, n < ad.length) → ∃ ad' : List Addr, ad'.length = ms.length ∧ ∀ (j : Nat) n, ms[j]? = some n → ad'[j]? = ad[n]? := by
    intro ms
    induction ms with
    | nil => intro _; exact ⟨[], rfl, fun j n h => by simp at h⟩
    | cons m ms ih =>
      intro h
      obtain ⟨a', l', e'⟩ := ih fun n hn => h n (List.mem_cons_of_mem _ hn)
      have hm := h m (List.mem_cons_self ..)
      refine ⟨ad[m] :: a', by simp [l'], fun j n hj => ?_⟩
      cases j with
      | zero =>
        have : m = n := by simpa using hj
        subst this
        simp [List.getElem?_eq_getElem hm]
      | succ j => simpa using e' j n (by simpa using hj)
  have hlt : ∀ n ∈ ns, n < ad.length := fun n hn => by
    obtain ⟨j, hj⟩ := List.mem_iff_getElem?.mp hn
    have := (h2 j n hj).2
    rw [r.len]; exact this
  obtain ⟨ad', l', e'⟩ := ex ns hlt
  have back : ∀ (j : Nat) b, ad'[j]? = some b → ∃ n, ns[j]? = some n ∧ ad[n]? = some b := fun j b hj => by
    have hl := (List.getElem?_eq_some_iff.mp hj).1
    have hj2 : ns[j]? = some ns[j] := List.getElem?_eq_getElem (by omega)
    exact ⟨_, hj2, by rw [← e' j _ hj2]; exact hj⟩
  have sub : ∀ b ∈ ad', b ∈ ad := fun b hb => by
    obtain ⟨j, hj⟩ := List.mem_iff_getElem?.mp hb
    obtain ⟨n, _, hn⟩ := back j b hj
    exact List.mem_of_getElem? hn
  have upI : ∀ q, q ∈ cs.flatMap Cell.ads → q ∈ s.cs.flatMap Cell.ads := fun q hq => by
    obtain ⟨c, hc, hq⟩ := List.mem_flatMap.mp hq
    obtain ⟨j, hj⟩ := List.mem_iff_getElem?.mp hc
    have hl := (List.getElem?_eq_some_iff.mp hj).1
    have hj2 : ns[j]? = some ns[j] := List.getElem?_eq_getElem (by omega)
    exact mem_ads (by rw [← (h2 j _ hj2).1]; exact hj) hq
  have nsOf : ∀ (j : Nat) c, cs[j]? = some c → ∃ n, ns[j]? = some n ∧ s.cs[n]? = some c := fun j c hj => by
    have hl := (List.getElem?_eq_some_iff.mp hj).1
    have hj2 : ns[j]? = some ns[j] := List.getElem?_eq_getElem (by omega)
    exact ⟨_, hj2, by rw [← (h2 j _ hj2).1]; exact hj⟩
  obtain ⟨n1, n2⟩ := flat_nd.mp r.inn.nd
  have inn : Inn (Bs.at ad' F H (cs.flatMap Cell.ads)) ad' F H cs := by
    refine ⟨flat_nd.mpr ⟨fun j c hj => ?_, fun i j c d q hc hd hqc hqd => ?_⟩, fun q hq j hj => ?_, fun q hq => r.inn.fr q (upI q hq), fun q hq => .inr (.inl hq), fun b hb => (r.inn.fr b (upI b hb)).2⟩
    · obtain ⟨n, _, hn⟩ := nsOf j c hj
      exact n1 n c hn
    · obtain ⟨a, ha, hca⟩ := nsOf i c hc
      obtain ⟨b, hb, hdb⟩ := nsOf j d hd
      have := n2 a b c d q hca hdb hqc hqd
      subst this
      exact (List.getElem?_inj (List.getElem?_eq_some_iff.mp ha).1 nd).mp (ha.trans hb.symm)
    · obtain ⟨n, hn, hna⟩ := back j q hj
      have := r.inn.off q (upI q hq) n hna
      rw [← (h2 j n hn).1] at this
      exact this
  refine ⟨ad', l', e', sub, Same.refl _, r.fh, fun _ _ _ _ e => e, fun b hb => hb.elim (fun h => r.mem (sub b h)) (fun h => (r.inn.fr b (upI b h)).2), fun b e _ => e, ⟨[], by simp [Bs.at], (fun _ h => nomatch h)⟩, ?_, by simp [l', h1], fun j p c hj hc => ?_, rfl, fun k x h => by simp at h, inn⟩
  · rw [List.nodup_iff_pairwise_ne, List.pairwise_iff_getElem]
    intro i j hi hj hij e
    have a1 : ad'[i]? = some ad'[i] := List.getElem?_eq_getElem hi
    have a2 : ad'[j]? = some ad'[i] := by rw [List.getElem?_eq_getElem hj, e]
    obtain ⟨n, n1, n2⟩ := back i _ a1
    obtain ⟨m, m1, m2⟩ := back j _ a2
    have := nodup_get r.nd n2 m2
    subst this
    have := (List.getElem?_inj (by omega) nd).mp (n1.trans m1.symm)
    omega
  · obtain ⟨n, n1, n2⟩ := back j p hj
    have hc' : s.cs[n]? = some c := by rw [← (h2 j n n1).1]; exact hc
    obtain ⟨n0, l, ok⟩ := r.cel n p c n2 hc'
    exact ⟨n0, l, ok.flat (hf c (List.mem_of_getElem? hc))⟩
theorem Rl.unsubX {B : Bs} {ad ad' ex : List Addr} {F H F2 H2 : Hp} {s : AS} {σ : St} {ns : List Nat} {cs cs2 cx : List Cell} (r : Rl B ad F H s σ) (nd : ns.Nodup) (hs : subC s.cs ns = some cs) (hg : ∀ c ∈ cs, c ≠ .gone) (hl : ad'.length = ns.length) (he : ∀ (j : Nat) n, ns[j]? = some n → ad'[j]? = ad[n]?) (sub : ∀ b ∈ ad', b ∈ ad)
    (q : Rl (Bs.at ad' F H (cs.flatMap Cell.ads)) (ad' ++ ex) F2 H2 ⟨[], cs2 ++ cx⟩ []) (hl2 : cs2.length = ns.length) (hf : ∀ c ∈ cs2 ++ cx, c.flat = true) : Rl B (ad ++ ex) F2 H2 ⟨s.sl, putC s.cs ns cs2 ++ cx⟩ σ := by
  obtain ⟨h1, h2⟩ := subC_ok hs
  obtain ⟨n1, n2⟩ := flat_nd.mp r.inn.nd
  obtain ⟨m1, m2⟩ := flat_nd.mp q.inn.nd
  have hlx : ex.length = cx.length := by
    have := q.len
    simp only [List.length_append] at this
    omega
  have hex : ∀ b ∈ ex, H b = none := fun b hb => by
    obtain ⟨a3, e3, h3⟩ := q.pre
    have e4 : ex = a3 := List.append_cancel_left e3
    exact h3 b (e4 ▸ hb)
  have nsOf : ∀ (j : Nat) n, ns[j]? = some n → ∃ c, s.cs[n]? = some c ∧ c ∈ cs := fun j n hj => by
    have hjl := (List.getElem?_eq_some_iff.mp hj).1
    have e1 : cs[j]? = some cs[j] := List.getElem?_eq_getElem (by omega)
    exact ⟨_, by rw [← (h2 j n hj).1]; exact e1, List.mem_of_getElem? e1⟩
  have csOf : ∀ x, x ∈ cs.flatMap Cell.ads → ∃ n c, n ∈ ns ∧ s.cs[n]? = some c ∧ x ∈ c.ads := fun x hx => by
    obtain ⟨c, hc, hx⟩ := List.mem_flatMap.mp hx
    obtain ⟨j, hj⟩ := List.mem_iff_getElem?.mp hc
    have hjl := (List.getElem?_eq_some_iff.mp hj).1
    have hj2 : ns[j]? = some ns[j] := List.getElem?_eq_getElem (by omega)
    exact ⟨_, c, List.mem_of_getElem? hj2, by rw [← (h2 j _ hj2).1]; exact hj, hx⟩
  have adOf : ∀ x, x ∈ ad' → ∃ n c, n ∈ ns ∧ ad[n]? = some x ∧ s.cs[n]? = some c ∧ c ∈ cs := fun x hx => by
    obtain ⟨j, hj⟩ := List.mem_iff_getElem?.mp hx
    have hjl := (List.getElem?_eq_some_iff.mp hj).1
    have hj2 : ns[j]? = some ns[j] := List.getElem?_eq_getElem (by omega)
    obtain ⟨c, hc, hm⟩ := nsOf j _ hj2
    exact ⟨_, c, List.mem_of_getElem? hj2, by rw [← he j _ hj2]; exact hj, hc, hm⟩
  -- a tree's address that is not among those handed in
  have offS : ∀ (i : Nat) c x, i ∉ ns → s.cs[i]? = some c → x ∈ c.ads → x ∉ ad' ∧ x ∉ cs.flatMap Cell.ads := fun i c x hi hc hx => by
    refine ⟨fun z => ?_, fun z => ?_⟩
    · obtain ⟨n, d, hn, hna, hnd, hm⟩ := adOf x z
      rcases r.inn.off x (mem_ads hc hx) n hna with e | ⟨t, e, et⟩
      · rw [hnd] at e; cases e; exact hg _ hm rfl
      · have hxt : x ∈ (Cell.tr t).ads := by
          cases t with
          | d _ => cases et
          | nd k a xs => cases et; exact List.mem_cons_self ..
        exact hi (n2 i n c _ x hc e hx hxt ▸ hn)
    · obtain ⟨n, d, hn, hnd, hxd⟩ := csOf x z
      exact hi (n2 i n c d x hc hnd hx hxd ▸ hn)
  have look : ∀ (i : Nat) c, (putC s.cs ns cs2 ++ cx)[i]? = some c → (i ∉ ns ∧ s.cs[i]? = some c) ∨ ∃ j, (cs2 ++ cx)[j]? = some c ∧ (ns[j]? = some i ∨ (ns.length ≤ j ∧ i = s.cs.length + (j - ns.length))) := by
    intro i c hc
    by_cases hil : i < s.cs.length
    · rw [List.getElem?_append_left (by rw [putC_len]; exact hil)] at hc
      by_cases hi : i ∈ ns
      · obtain ⟨j, hj⟩ := List.mem_iff_getElem?.mp hi
        have hjl := (List.getElem?_eq_some_iff.mp hj).1
        rw [putC_at nd hl2 hil hj] at hc
        exact .inr ⟨j, by rw [List.getElem?_append_left (by omega)]; exact hc, .inl hj⟩
      · rw [putC_ne hi] at hc
        exact .inl ⟨hi, hc⟩
    · rw [List.getElem?_append_right (by rw [putC_len]; omega), putC_len] at hc
      refine .inr ⟨ns.length + (i - s.cs.length), ?_, .inr ⟨by omega, by omega⟩⟩
      rw [List.getElem?_append_right (by omega), hl2, Nat.add_sub_cancel_left]
      exact hc
  -- where an address of all stands
  have lookA : ∀ (i : Nat) x, (ad ++ ex)[i]? = some x → (i ∉ ns ∧ ad[i]? = some x ∧ (putC s.cs ns cs2 ++ cx)[i]? = s.cs[i]?) ∨ ∃ j, (ad' ++ ex)[j]? = some x ∧ (putC s.cs ns cs2 ++ cx)[i]? = (cs2 ++ cx)[j]? ∧ (ns[j]? = some i ∨ (ns.length ≤ j ∧ i = s.cs.length + (j - ns.length))) := by
    intro i x hx
    have hal := r.len
    by_cases hil : i < s.cs.length
    · rw [List.getElem?_append_left (by omega)] at hx
      by_cases hi : i ∈ ns
      · obtain ⟨j, hj⟩ := List.mem_iff_getElem?.mp hi
        have hjl := (List.getElem?_eq_some_iff.mp hj).1
        refine .inr ⟨j, by rw [List.getElem?_append_left (by omega), he j i hj]; exact hx, ?_, .inl hj⟩
        rw [List.getElem?_append_left (by rw [putC_len]; exact hil), putC_at nd hl2 hil hj, List.getElem?_append_left (by omega)]
      · exact .inl ⟨hi, hx, by rw [List.getElem?_append_left (by rw [putC_len]; exact hil), putC_ne hi]⟩
    · rw [List.getElem?_append_right (by omega)] at hx
      refine .inr ⟨ns.length + (i - s.cs.length), ?_, ?_, .inr ⟨by omega, by omega⟩⟩
      · rw [List.getElem?_append_right (by omega), hl, Nat.add_sub_cancel_left, ← hal]; exact hx
      · rw [List.getElem?_append_right (by rw [putC_len]; omega), putC_len, List.getElem?_append_right (by omega), hl2, Nat.add_sub_cancel_left]
  have inj : ∀ (j i i' : Nat), (ns[j]? = some i ∨ (ns.length ≤ j ∧ i = s.cs.length + (j - ns.length))) → (ns[j]? = some i' ∨ (ns.length ≤ j ∧ i' = s.cs.length + (j - ns.length))) → i = i' := by
    intro j i i' h h'
    rcases h with h | ⟨h, e⟩ <;> rcases h' with h' | ⟨h', e'⟩
    · rw [h] at h'; exact Option.some.inj h'
    · have := (List.getElem?_eq_some_iff.mp h).1; omega
    · have := (List.getElem?_eq_some_iff.mp h').1; omega
    · omega
  have ownJ : ∀ x, x ∈ (cs2 ++ cx).flatMap Cell.ads → x ∈ ad' ∨ x ∈ cs.flatMap Cell.ads ∨ H x = none := q.inn.own
  have inn : Inn B (ad ++ ex) F2 H2 (putC s.cs ns cs2 ++ cx) := by
    refine ⟨flat_nd.mpr ⟨fun i c hc => ?_, fun i i' c d x hc hd hxc hxd => ?_⟩, fun x hx i hi => ?_, fun x hx => ?_, fun x hx => ?_, r.inn.old⟩
    · rcases look i c hc with ⟨_, h⟩ | ⟨j, h, _⟩
      · exact n1 i c h
      · exact m1 j c h
    · have mix : ∀ (a : Nat) (j : Nat) c d, a ∉ ns → s.cs[a]? = some c → (cs2 ++ cx)[j]? = some d → x ∈ c.ads → x ∈ d.ads → False := fun a j c d ha hc hd hxc hxd => by
        obtain ⟨o1, o2⟩ := offS a c x ha hc hxc
        rcases ownJ x (mem_ads hd hxd) with z | z | z
        · exact o1 z
        · exact o2 z
        · exact (r.inn.fr x (mem_ads hc hxc)).2 z
      rcases look i c hc with ⟨hi, h⟩ | ⟨j, h, hj⟩ <;> rcases look i' d hd with ⟨hi', h'⟩ | ⟨j', h', hj'⟩
      · exact n2 i i' c d x h h' hxc hxd
      · exact (mix i j' c d hi h h' hxc hxd).elim
      · exact (mix i' j d c hi' h' h hxd hxc).elim
      · have := m2 j j' c d x h h' hxc hxd
        subst this
        exact inj j i i' hj hj'
    · obtain ⟨c, hc, hxc⟩ := List.mem_flatMap.mp hx
      obtain ⟨i0, hi0⟩ := List.mem_iff_getElem?.mp hc
      rcases lookA i x hi with ⟨hin, hia, e⟩ | ⟨j, hj, e, hji⟩
      · rw [e]
        rcases look i0 c hi0 with ⟨h0, h0c⟩ | ⟨j0, h0c, _⟩
        · exact r.inn.off x (mem_ads h0c hxc) i hia
        · rcases ownJ x (mem_ads h0c hxc) with z | z | z
          · obtain ⟨n, d, hn, hna, _⟩ := adOf x z
            exact absurd (nodup_get r.nd hia hna ▸ hn) hin
          · obtain ⟨n, d, hn, hnd, hxd⟩ := csOf x z
            exact r.inn.off x (mem_ads hnd hxd) i hia
          · exact absurd z (r.mem (List.mem_of_getElem? hia))
      · rw [e]
        rcases look i0 c hi0 with ⟨h0, h0c⟩ | ⟨j0, h0c, _⟩
        · obtain ⟨o1, o2⟩ := offS i0 c x h0 h0c hxc
          rcases List.mem_append.mp (List.mem_of_getElem? hj) with z | z
          · exact absurd z o1
          · exact absurd (hex x z) (r.inn.fr x (mem_ads h0c hxc)).2
        · exact q.inn.off x (mem_ads h0c hxc) j hj
    · obtain ⟨c, hc, hxc⟩ := List.mem_flatMap.mp hx
      obtain ⟨i0, hi0⟩ := List.mem_iff_getElem?.mp hc
      rcases look i0 c hi0 with ⟨h0, h0c⟩ | ⟨j0, h0c, _⟩
      · obtain ⟨f1, f2⟩ := r.inn.fr x (mem_ads h0c hxc)
        exact ⟨q.new x f1 f2, q.there f2⟩
      · exact q.inn.fr x (mem_ads h0c hxc)
    · obtain ⟨c, hc, hxc⟩ := List.mem_flatMap.mp hx
      obtain ⟨i0, hi0⟩ := List.mem_iff_getElem?.mp hc
      rcases look i0 c hi0 with ⟨h0, h0c⟩ | ⟨j0, h0c, _⟩
      · exact r.inn.own x (mem_ads h0c hxc)
      · rcases ownJ x (mem_ads h0c hxc) with z | z | z
        · exact (r.inS (sub x z)).elim .inl fun z => .inr (.inr z)
        · obtain ⟨n, d, hn, hnd, hxd⟩ := csOf x z
          exact r.inn.own x (mem_ads hnd hxd)
        · exact .inr (.inr (r.fresh z).1)
  refine ⟨r.ff.trans q.ff, q.fh, fun b o hb ht e => ?_, fun b hb => q.there (r.al b hb), fun b e n => q.new b (r.new b e n) (r.there n), ?_, ?_, ?_, fun i p c h3 h4 => ?_, r.sln, fun k x h => ?_, inn⟩
  · refine q.hh b o (fun z => ?_) (fun z => ?_) (r.hh b o hb ht e)
    · rcases r.inS (sub b z) with z | z
      · exact hb z
      · rw [z] at e; cases e
    · obtain ⟨n, d, hn, hnd, hxd⟩ := csOf b z
      rcases r.inn.own b (mem_ads hnd hxd) with z | z | z
      · exact hb z
      · exact ht z
      · rw [z] at e; cases e
  · obtain ⟨a3, e3, h5⟩ := r.pre
    refine ⟨a3 ++ ex, by rw [e3, List.append_assoc], fun b hb => ?_⟩
    rcases List.mem_append.mp hb with hb | hb
    · exact h5 b hb
    · exact (r.fresh (hex b hb)).1
  · rw [List.nodup_append]
    refine ⟨r.nd, (List.nodup_append.mp q.nd).2.1, fun a ha b hb e => ?_⟩
    subst e
    exact r.mem ha (hex a hb)
  · show (ad ++ ex).length = (putC s.cs ns cs2 ++ cx).length
    rw [List.length_append, List.length_append, putC_len, r.len, hlx]
  · rcases lookA i p h3 with ⟨hi, hia, e⟩ | ⟨j, hj, e, _⟩
    · have h4 : (putC s.cs ns cs2 ++ cx)[i]? = some c := h4
      rw [e] at h4
      obtain ⟨n0, l, ok⟩ := r.cel i p c hia h4
      by_cases hgn : c = .gone
      · subst hgn
        exact ⟨q.there n0, (fun z => by cases z), trivial⟩
      · have hp : p ∉ ad' := fun z => by
          obtain ⟨n, d, hn, hna, _⟩ := adOf p z
          exact hi (nodup_get r.nd hia hna ▸ hn)
        have hpT : p ∉ cs.flatMap Cell.ads := fun z => by
          obtain ⟨n, d, hn, hnd, hxd⟩ := csOf p z
          rcases r.inn.off p (mem_ads hnd hxd) i hia with e | ⟨t, e, et⟩
          · rw [h4] at e; exact hgn (Option.some.inj e)
          · have hxt : p ∈ (Cell.tr t).ads := by
              cases t with
              | d _ => cases et
              | nd k a xs => cases et; exact List.mem_cons_self ..
            exact hi (n2 i n _ d p e hnd hxt hxd ▸ hn)
        have keep : ∀ o, H p = some o → H2 p = some o := fun o e => q.hh p o hp hpT e
        exact ⟨q.there n0, fun z => q.new p (l z) n0, ok.mono ⟨ex, rfl⟩ q.ff keep fun x hx o ho => q.hh x o (offS i c x hi h4 hx).1 (offS i c x hi h4 hx).2 ho⟩
    · have h4 : (putC s.cs ns cs2 ++ cx)[i]? = some c := h4
      rw [e] at h4
      obtain ⟨n0, l, ok⟩ := q.cel j p c hj h4
      exact ⟨n0, l, ok.flat (hf c (List.mem_of_getElem? h4))⟩
  · obtain ⟨v, h5, h6⟩ := r.slt k x h
    exact ⟨v, h5, h6.mono ⟨ex, rfl⟩ q.ff⟩
theorem Rl.unsub {B : Bs} {ad ad' : List Addr} {F H F2 H2 : Hp} {s : AS} {σ : St} {ns : List Nat} {cs cs2 : List Cell} (r : Rl B ad F H s σ) (nd : ns.Nodup) (hs : subC s.cs ns = some cs) (hg : ∀ c ∈ cs, c ≠ .gone) (hl : ad'.length = ns.length) (he : ∀ (j : Nat) n, ns[j]? = some n → ad'[j]? = ad[n]?) (sub : ∀ b ∈ ad', b ∈ ad)
    (q : Rl (Bs.at ad' F H (cs.flatMap Cell.ads)) ad' F2 H2 ⟨[], cs2⟩ []) (hf : ∀ c ∈ cs2, c.flat = true) : Rl B ad F2 H2 ⟨s.sl, putC s.cs ns cs2⟩ σ := by
  have := r.unsubX (ex := []) (cx := []) nd hs hg hl he sub (by simpa using q) (by rw [← hl]; exact q.len.symm) (by simpa using hf)
  simpa using this
theorem paired_ren {ad ad' : List Addr} {F : Hp} {ns : List Nat} (he : ∀ (j : Nat) n, ns[j]? = some n → ad'[j]? = ad[n]?) : ∀ {xs : List AVal} {vs : List V}, (∀ n, AVal.r n ∈ xs → n ∈ ns) → Paired (VOk ad F) xs vs → Paired (VOk ad' F) (xs.map (ren ns)) vs
  | [], _, _, .nil => .nil
  | x :: xs, _, hn, .cons h t => by
    refine .cons ?_ (paired_ren he (fun n hx => hn n (List.mem_cons_of_mem _ hx)) t)
    cases x with
    | d y => exact h
    | s _ _ => exact h
    | a _ _ _ => exact h
    | r n =>
      obtain ⟨a, h1, h2⟩ := h
      have hm := hn n (List.mem_cons_self ..)
      refine ⟨a, ?_, h2⟩
      have hlt := List.idxOf_lt_length_of_mem hm
      have e : ns[ns.idxOf n]? = some n := by rw [List.getElem?_eq_getElem hlt, List.getElem_idxOf]
      rw [he _ n e]
      exact h1
/-- what a call leaves -/
def resF (Q : VQ) : RV → AS → Prop := fun rv s => match rv with
  | .f x => Q (.d x) s
  | .n c => onSome (frzC c) fun d => Q (.d d) s
  | .t _ => False
  | .p _ => False
  | .u _ _ => False
def resO (ns : List Nat) (Q : VQ) : RV → AS → Prop := fun rv s => match rv with
  | .f x => Q (.d x) s
  | .n c => Q (.r s.cs.length) ⟨s.sl, s.cs ++ [c]⟩
  | .t t => Q (.r s.cs.length) ⟨s.sl, s.cs ++ [.tr t]⟩
  | .p k => onSome ns[k]? fun n => Q (.r n) s
  | .u _ _ => False
/-- a tuple taken apart behind a call -/
def backN (m : Nat) (ns : List Nat) (w : Nat) : AVal → Option AVal
  | .r n => if n < m then (ns[n]?).map .r else some (.r (w + (n - m)))
  | .d x => some (.d x)
  | _ => none
def backs (m : Nat) (ns : List Nat) (w : Nat) : List AVal → Option (List AVal)
  | [] => some []
  | x :: xs => (backN m ns w x).bind fun y => (backs m ns w xs).map (y :: ·)
def resU (ns : List Nat) (Q : List AVal → AS → Prop) : RV → AS → Prop := fun rv s => match rv with
  | .u xs new => onSome (backs ns.length ns s.cs.length xs) fun ys => Q ys ⟨s.sl, s.cs ++ new⟩
  | .f (.tuple ds) => Q (ds.map .d) s
  | _ => False
def callF (t : SpT) (tl : TLA) : TEA := fun s Q => tl s fun xs s1 => callW t xs s1 (resF Q)
def callO (t : SpT) (tl : TLA) : TEA := fun s Q => tl s fun xs s1 => callW t xs s1 (resO (refsOf xs) Q)
section
variable {X : Cx} {B : Bs} {e : Expr} {es : List Expr} {k n : Nat} {f : Addr} {fd : FuncData} {ps : List Str} {t : SpT} {x : Str} {p pos : Pos} {tl : TLA} {σ : St}
theorem call_post {ad : List Addr} {F H : Hp} {s : AS} {xs : List AVal} {vs : List V} {P : RV → AS → Prop} {Q : VK} (hn : vs.length = n) (r : Rl B ad F H s σ) (hv : Paired (VOk ad F) xs vs) (h : callW t xs s P)
    (hF : ∀ F2 H2 y v s2, Rl B ad F2 H2 s2 σ → Same F F2 → Da F2 y v → P (.f y) s2 → Q v H2)
    (hN : ∀ F2 H1 H2 c p o s2, Rl B ad F2 H1 s2 σ → Same F F2 → H1 p = none → H2 = upd H1 p o → COk ad F2 H2 p c → c.live = true → P (.n c) s2 → Q (.ref p) H2)
    (hT : ∀ F2 H2 t p s2, Rl B (ad ++ [p]) F2 H2 ⟨s2.sl, s2.cs ++ [.tr t]⟩ σ → s2.cs.length = ad.length → Same F F2 → P (.t t) s2 → Q (.ref p) H2)
    (hP : ∀ F2 H2 k n p s2, Rl B ad F2 H2 s2 σ → Same F F2 → (refsOf xs)[k]? = some n → ad[n]? = some p → P (.p k) s2 → Q (.ref p) H2)
    (hU : ∀ F2 H2 ex new ad' ys ws p s2, Rl B (ad ++ ex) F2 H2 ⟨s2.sl, s2.cs ++ new⟩ σ → s2.cs.length = ad.length → Same F F2 → ad'.length = (refsOf xs).length → (∀ (j : Nat) n, (refsOf xs)[j]? = some n → ad'[j]? = ad[n]?) → H2 p = some (.tup ws) → Paired (VOk (ad' ++ ex) F2) ys ws → P (.u ys new) s2 → Q (.ref p) H2) : spA n t vs H Q E0 := by
  obtain ⟨nd, cs, hs, hf, ht⟩ := h
  have hf := List.all_eq_true.mp hf
  have hg : ∀ c ∈ cs, c ≠ .gone := fun c hc => pass_gone (hf c hc)
  obtain ⟨ad', hl, he, sub, rs⟩ := r.sub nd hs fun c hc => pass_flat (hf c hc)
  have hcl : cs.length = ad'.length := rs.len.symm
  refine ⟨F, ad', cs, xs.map (ren (refsOf xs)), _, hn, rs, paired_ren he (fun n hx => refs_mem hx) hv, ht, fun v H2 hp => ?_⟩
  rcases hp with ⟨F2, y, cs2, r2, hf2, hd, hp⟩ | ⟨F2, c, cs2, p, H1, o, r2, hf2, rfl, hp1, e2, ok, hlv, hfl, hp⟩ | ⟨F2, t, cs2, p, r2, hf2, rfl, hp⟩ | ⟨F2, cs2, k, p, r2, hf2, hk, rfl, hp⟩ | ⟨F2, cs2, new, ex, ys, ws, p, r2, hl3, hf2, rfl, hpt, hys, hp⟩
  · exact hF F2 H2 y v _ (r.unsub nd hs hg hl he sub r2 hf2) r2.ff hd (hp (by rw [hcl]; exact r2.len.symm))
  · exact hN F2 H1 H2 c p o _ (r.unsub nd hs hg hl he sub r2 hf2) r2.ff hp1 e2 (ok.flat hfl) hlv (hp (by rw [hcl]; exact r2.len.symm))
  · have hl3 : cs2.length = ad'.length := by
      have := r2.len
      simp only [List.length_append, List.length_singleton] at this
      omega
    refine hT F2 H2 t p _ (r.unsubX nd hs hg hl he sub r2 (by omega) (fun c hc => ?_)) ?_ r2.ff (hp (by rw [hcl]; exact hl3))
    · rcases List.mem_append.mp hc with hc | hc
      · exact hf2 c hc
      · rw [List.mem_singleton] at hc; subst hc; rfl
    · show (putC s.cs (refsOf xs) cs2).length = _
      rw [putC_len]; exact r.len.symm
  · have hkl := (List.getElem?_eq_some_iff.mp hk).1
    have hj : (refsOf xs)[k]? = some (refsOf xs)[k] := List.getElem?_eq_getElem (by omega)
    refine hP F2 H2 k _ p _ (r.unsub nd hs hg hl he sub r2 hf2) r2.ff hj ?_ (hp (by rw [hcl]; exact r2.len.symm))
    rw [← he k _ hj]; exact hk
  · refine hU F2 H2 ex new ad' ys ws p _ (r.unsubX nd hs hg hl he sub r2 (by omega) hf2) ?_ r2.ff hl he hpt hys (hp (by rw [hcl]; exact hl3))
    show (putC s.cs (refsOf xs) cs2).length = _
    rw [putC_len]; exact r.len.symm
theorem ea_callF (G : FnOk X.prog X.w X.K X.mg X.base CX0 k f fd ps (spA n t)) (hr : Room k X.A) (hm : X.mg x = some (.ref f)) (hk : PySem.W.keepIn X.K (.ref f) = true) (hb : Binds X.K fd ps []) (ha : EL X B (e :: es) tl)
    (hn : (e :: es).length = n := by rfl) (hg : Gl X x := by rfl) (hdb : (x == ("__debug__" : Str)) = false := by decide) (l : Pl X e es pos := by exact ⟨rfl, rfl⟩) : EA X B (.Call (.Name x p) (e :: es) [] pos) (callF t tl) := ⟨fun ad F H s σ Q r h =>
  we_of (pe_call G hr hg hm hk hb .nil pass0 pa_wa hdb l.he l.hpl) ((ha.run ad F H s σ _ r h).imp fun vs H1 q => by
    obtain ⟨ad1, F1, xs, s1, e1, k1, r1, hv, hxl, q⟩ := q
    show spA n t (vs ++ []) H1 _ E0
    rw [List.append_nil]
    exact call_post (by rw [← Paired.len hv, hxl]; exact hn) r1 hv q (fun F2 H2 y v s2 r2 k2 hd hp => ⟨ad1, F2, .d y, s2, e1, k1.trans k2, r2, hd, hp⟩)
      (fun F2 H2 H3 c p o s2 r2 k2 hp e3 ok hl hP => PostN.frz (Q := Q) ⟨ad1, F2, c, s2, p, H2, o, e1, k1.trans k2, r2, rfl, hp, e3, ok, hl, hP⟩) (fun F2 H2 t p s2 _ _ _ h => h.elim) (fun F2 H2 k n p s2 _ _ _ _ h => h.elim) (fun F2 H2 ex new ad' ys ws p s2 _ _ _ _ _ _ _ h => h.elim))⟩
theorem ea_callO (G : FnOk X.prog X.w X.K X.mg X.base CX0 k f fd ps (spA n t)) (hr : Room k X.A) (hm : X.mg x = some (.ref f)) (hk : PySem.W.keepIn X.K (.ref f) = true) (hb : Binds X.K fd ps []) (ha : EL X B (e :: es) tl)
    (hn : (e :: es).length = n := by rfl) (hg : Gl X x := by rfl) (hdb : (x == ("__debug__" : Str)) = false := by decide) (l : Pl X e es pos := by exact ⟨rfl, rfl⟩) : EA X B (.Call (.Name x p) (e :: es) [] pos) (callO t tl) := ⟨fun ad F H s σ Q r h =>
  we_of (pe_call G hr hg hm hk hb .nil pass0 pa_wa hdb l.he l.hpl) ((ha.run ad F H s σ _ r h).imp fun vs H1 q => by
    obtain ⟨ad1, F1, xs, s1, e1, k1, r1, hv, hxl, q⟩ := q
    show spA n t (vs ++ []) H1 _ E0
    rw [List.append_nil]
    exact call_post (by rw [← Paired.len hv, hxl]; exact hn) r1 hv q (fun F2 H2 y v s2 r2 k2 hd hp => ⟨ad1, F2, .d y, s2, e1, k1.trans k2, r2, hd, hp⟩)
      (fun F2 H2 H3 c p o s2 r2 k2 hp e3 ok hl hP => PostN.owned (Q := Q) ⟨ad1, F2, c, s2, p, H2, o, e1, k1.trans k2, r2, rfl, hp, e3, ok, hl, hP⟩)
      (fun F2 H2 t p s2 r2 hl2 k2 hP => ⟨ad1 ++ [p], F2, .r s2.cs.length, _, e1.trans ⟨[p], rfl⟩, k1.trans k2, r2, ⟨p, by rw [hl2]; simp, rfl⟩, hP⟩)
      (fun F2 H2 k n p s2 r2 k2 hk hp ⟨n', hn', hP⟩ => ⟨ad1, F2, .r n, s2, e1, k1.trans k2, r2, ⟨p, hp, rfl⟩, by rw [hk] at hn'; cases hn'; exact hP⟩) (fun F2 H2 ex new ad' ys ws p s2 _ _ _ _ _ _ _ h => h.elim))⟩
def callU (t : SpT) (tl : TLA) (g : List AVal → AS → (AS → Prop) → Prop) : TSA := fun D s => tl s fun xs s1 => callW t xs s1 (resU (refsOf xs) fun ys s2 => g ys s2 D.nx)
end
end Kr
/-! layer A7 -/
namespace Kr
open PySem L2
section
variable {X : Cx} {B : Bs} {ad : List Addr} {F H : Hp} {s : AS} {σ : St} {x y : AVal} {u v : V} {a b c e f o : Expr} {es : List Expr} {pos p p2 q q2 apos cpos tpos : Pos} {ta tb tc to : TEA} {tl : TLA}
/-! ## items -/
def rAnyI (X : Cx) : R2 := fun u v H Q => ∃ r, IxR X r ∧ r u v H Q
theorem ix_any : IxR X (rAnyI X) := fun value slice pins s σ H x y v u Q I rx ry ⟨r, h, q⟩ hs => h value slice pins s σ H x y v u Q I rx ry q hs
open PySem.Spec PyProof.Rows in
theorem ix_dict (hu : X.A.units + 1 < cLine) : IxR X (fun x y H Q => ∃ a v, x = .ref a ∧ DGet H a y (some v) ∧ Q v H) := by
  intro value slice pins s σ H x y v u Q I rx ry h hs
  obtain ⟨a, w, rfl, g, q⟩ := h
  cases rx
  have hT := dict_typeIs I g
  unfold subscriptTail
  refine wpAny_bind ?_
  rw [getitemInPython_of_ne hT.not_modules]
  refine wpAny_bind (wpAny_specialOf hT PySem.F.slot_dict_getitem.lookup ?_)
  have fin : wpAny (model X.prog X.w) X.A (subscripted slice false (.ref a) u) (fun r s₃ => wpAny (model X.prog X.w) X.A (letTemporaryGo value (.ref a) r >>= fun _ => pure r) (EP X pins σ Q) X.xe s₃) X.xe s := by
    rw [hs]
    exact wpAny_operating (d_getItem hu I g ry fun w' s3 I3 rw' => wpAny_bind (wpAny_letTemporaryGo (wpAny_pure ⟨w, H, I3, rw', q⟩)))
  first
    | exact wpAny_pure (wpAny_bind fin)
    | exact wpAny_bind (wpAny_pure (wpAny_bind fin))
    | exact wpAny_bind fin
def ixA : AVal → AVal → TEA := fun x y s Q => match view s x with
  | .seq xs => onSome y.int? fun i => onSome (L2.atI xs i) fun z => Q z s
  | .dct kvs => onSome y.key? fun k => onSome (getA kvs k) fun z => Q z s
  | .txt z => onSome y.int? fun i => z.length ≤ sizeLine ∧ onSome (L2.atI z.cps.toList i) fun c => Q (.d (.str ⟨#[c]⟩)) s
  | .oth => False
theorem ea_ix (hu : X.A.units + 1 < cLine) (ha : EA X B a ta) (hb : EA X B b tb) (hs : PlainIx b := by exact fun _ _ => rfl) : EA X B (.Subscript a b pos) (opA ixA ta tb) := ⟨fun ad F H s σ Q r t =>
  we_of (pe_ix ix_any pe_we pe_we hs) (we2 (R := fun u v H2 => rAnyI X u v H2 (Post B ad F σ Q)) (K := Post B ad F σ Q) ha hb r t fun ad2 F2 H2 s2 x y u v e k r2 hu2 hv t2 => by
    unfold ixA at t2
    split at t2
    · rename_i xs hx
      obtain ⟨i, ei, z, ez, q⟩ := t2
      have := AVal.int?_of ei
      subst this
      obtain ⟨l, vs, rfl, hl, hp⟩ := hu2.seq r2 hx
      obtain ⟨w, hw, hz⟩ := Paired.atI hp ez
      rcases hl with hl | hl
      · exact ⟨_, ix_list, l, vs, i, w, rfl, hv, SqL.of hl, hw, (Post.here r2 hz q).up e k⟩
      · exact ⟨_, ix_tup, l, vs, i, w, rfl, hv, SqT.of hl, hw, (Post.here r2 hz q).up e k⟩
    · rename_i kvs hx
      obtain ⟨k2, ek, z, ez, q⟩ := t2
      obtain ⟨l, es, rfl, hl, hp⟩ := hu2.dct r2 hx
      have hk := AVal.key?_ok ek hv
      subst hk
      have hg := hp.get (k := k2)
      rw [ez] at hg
      obtain ⟨w, hw, hz⟩ := hg
      exact ⟨_, ix_dict hu, l, w, rfl, hw ▸ .inl ⟨es, _, hl, rfl, rfl⟩, (Post.here r2 hz q).up e k⟩
    · rename_i z hx
      obtain ⟨i, ei, hz, c, ec, q⟩ := t2
      have := AVal.int?_of ei
      subst this
      have := hu2.txt r2 hx
      subst this
      exact ⟨_, ix_str, z, i, c, rfl, hv, hz, ec, (Post.here (x := .d (.str ⟨#[c]⟩)) r2 rfl q).up e k⟩
    · exact t2.elim)⟩
/-! ## slices -/
def rAnySl (X : Cx) : V → Option Int → Option Int → Hp → VK → Prop := fun x lo hi H Q => ∃ r, SlR X r ∧ r x lo hi H Q
theorem sl_any : SlR X (rAnySl X) := by
  intro pins s σ H x v vl vu lo hi sl Q I rx hs pl pu h
  obtain ⟨r, h1, h2⟩ := h
  exact h1 pins s σ H x v vl vu lo hi sl Q I rx hs pl pu h2
def cutD (ds : List PyData) (lo hi : Option Int) : List PyData := (ds.drop (HT.sIx ds.length 0 lo)).take (HT.sIx ds.length ds.length hi - HT.sIx ds.length 0 lo)
theorem DaAll.cut {ds : List PyData} {vs : List V} (h : DaAll F ds vs) (lo hi : Option Int) : DaAll F (cutD ds lo hi) (cutV vs lo hi) := by
  unfold cutD cutV
  rw [h.length]
  exact (h.drop _).take _
def slA (lo hi : Option Int) (x : AVal) : TEA := fun s Q => match view s x with
  | .txt z => z.length ≤ sizeLine ∧ Q (.d (.str (cutS z lo hi))) s
  | _ => onSome (listOf s x) fun ds => Q (.d (.list (cutD ds lo hi))) s
def slN (lo hi : Option Int) (x : AVal) : TNA := fun s Q => onSome (listOf s x) fun ds => Q (.lst (cutD ds lo hi)) s
theorem slA_ok {lo hi : Option Int} {Q : VQ} (r : Rl B ad F H s σ) (hx : VOk ad F x u) (t : slA lo hi x s Q) : rAnySl X u lo hi H (Post B ad F σ Q) := by
  have ls : (onSome (listOf s x) fun ds => Q (.d (.list (cutD ds lo hi))) s) → rAnySl X u lo hi H (Post B ad F σ Q) := by
    rintro ⟨ds, e, q⟩
    obtain ⟨l, vs, rfl, h1, h2⟩ := hx.list r e
    exact ⟨_, sl_list, l, vs, rfl, SqL.of h1, fun p hp => .newD (d := .list (cutD ds lo hi)) r hp ⟨p, _, rfl, upd_same, (h2.cut lo hi).mono (same_upd (r.fh.free hp))⟩ q⟩
  unfold slA at t
  split at t
  · rename_i z hz
    have := hx.txt r hz
    subst this
    exact ⟨_, sl_str, z, rfl, t.1, .here (x := .d (.str _)) r rfl t.2⟩
  · exact ls t
theorem slN_ok {lo hi : Option Int} {Q : Cell → AS → Prop} (r : Rl B ad F H s σ) (hx : VOk ad F x u) (t : slN lo hi x s Q) : rAnySl X u lo hi H (PostN B ad F σ Q) := by
  obtain ⟨ds, e, q⟩ := t
  obtain ⟨l, vs, rfl, h1, h2⟩ := hx.list r e
  exact ⟨_, sl_list, l, vs, rfl, SqL.of h1, fun p hp => .here (c := .lst (cutD ds lo hi)) r hp ⟨_, upd_same, h2.cut lo hi⟩ rfl q⟩
theorem slUp {Q Q' : VK} {lo hi : Option Int} (h : rAnySl X u lo hi H Q) (k : ∀ v H', Q v H' → Q' v H') : rAnySl X u lo hi H Q' := by
  obtain ⟨r, h1, h2⟩ := h
  refine ⟨fun x lo hi H K => ∃ K', (∀ w H', K' w H' → K w H') ∧ r x lo hi H K', ?_, _, k, h2⟩
  intro pins s σ H x v vl vu lo hi sl Q I rx hs pl pu ⟨K', k1, k2⟩
  obtain ⟨T, id, e1, e2, e3⟩ := h1 pins s σ H x v vl vu lo hi sl K' I rx hs pl pu k2
  exact ⟨T, id, e1, e2, thn e3 fun z s' ⟨w, H', I', rz, qz⟩ => ⟨w, H', I', rz, k1 w H' qz⟩⟩
def slHi (ta tb : TEA) : TEA := fun s Q => ta s fun x s1 => tb s1 fun y s2 => onSome y.int? fun i => slA none (some i) x s2 Q
def slLo (ta tb : TEA) : TEA := fun s Q => ta s fun x s1 => tb s1 fun y s2 => onSome y.int? fun i => slA (some i) none x s2 Q
def slHiN (ta tb : TEA) : TNA := fun s Q => ta s fun x s1 => tb s1 fun y s2 => onSome y.int? fun i => slN none (some i) x s2 Q
def slLoN (ta tb : TEA) : TNA := fun s Q => ta s fun x s1 => tb s1 fun y s2 => onSome y.int? fun i => slN (some i) none x s2 Q
theorem ea_slHi (ha : EA X B a ta) (hb : EA X B b tb) : EA X B (.Subscript a (.Slice none (some b) none p2) pos) (slHi ta tb) := ⟨fun ad F H s σ Q r t =>
  we_of (pe_slice sl_any pe_we po_none (po_some pe_we)) (we2 (R := fun u v H2 => ∃ i, v = .int i ∧ rAnySl X u none (some i) H2 (Post B ad F σ Q)) (K := fun _ _ => True) ha hb r t fun ad2 F2 H2 s2 x y u v e k r2 hu hv ⟨i, ei, t2⟩ => by
    have := AVal.int?_of ei
    subst this
    exact ⟨i, hv, slUp (slA_ok r2 hu t2) fun _ _ h => h.up e k⟩)⟩
theorem ea_slLo (ha : EA X B a ta) (hb : EA X B b tb) : EA X B (.Subscript a (.Slice (some b) none none p2) pos) (slLo ta tb) := ⟨fun ad F H s σ Q r t =>
  we_of (pe_slice sl_any pe_we (po_some pe_we) po_none) (we2 (R := fun u v H2 => ∃ i, v = .int i ∧ rAnySl X u (some i) none H2 (Post B ad F σ Q)) (K := fun _ _ => True) ha hb r t fun ad2 F2 H2 s2 x y u v e k r2 hu hv ⟨i, ei, t2⟩ => by
    have := AVal.int?_of ei
    subst this
    exact ⟨i, hv, slUp (slA_ok r2 hu t2) fun _ _ h => h.up e k⟩)⟩
theorem en_slLo (ha : EA X B a ta) (hb : EA X B b tb) : EN X B (.Subscript a (.Slice (some b) none none p2) pos) (slLoN ta tb) := ⟨fun ad F H s σ Q r t =>
  we_of (pe_slice sl_any pe_we (po_some pe_we) po_none) (we2 (R := fun u v H2 => ∃ i, v = .int i ∧ rAnySl X u (some i) none H2 (PostN B ad F σ Q)) (K := fun _ _ => True) ha hb r t fun ad2 F2 H2 s2 x y u v e k r2 hu hv ⟨i, ei, t2⟩ => by
    have := AVal.int?_of ei
    subst this
    exact ⟨i, hv, slUp (slN_ok r2 hu t2) fun _ _ h => h.up e k⟩)⟩
/-! ## in, not in -/
def flatD : PyData → Bool
  | .none => true
  | .bool _ => true
  | .int _ => true
  | .str _ => true
  | _ => false
def eqF : PyData → PyData → Bool
  | .none, .none => true
  | .bool a, .bool b => a == b
  | .bool a, .int b => (if a then 1 else 0) == b
  | .int a, .bool b => a == (if b then 1 else 0)
  | .int a, .int b => a == b
  | .str a, .str b => a == b
  | _, _ => false
def inD (x : PyData) (ds : List PyData) : Bool := ds.any fun y => eqF y x
theorem flat_ok {d : PyData} (h : flatD d = true) (hd : Da F d v) : flatV v = true := by
  cases d with
  | none => obtain rfl : v = .non := hd; rfl
  | bool _ => obtain rfl : v = .bl _ := hd; rfl
  | int _ => obtain rfl : v = .int _ := hd; rfl
  | str _ => obtain rfl : v = .str _ := hd; rfl
  | _ => cases h
theorem eqF_ok {d e : PyData} (h1 : flatD d = true) (h2 : flatD e = true) (hd : Da F d u) (he : Da F e v) : eqV u v = eqF d e := by
  cases d <;> cases e <;> simp only [flatD] at h1 h2 <;> (try exact absurd h1 (by decide)) <;> (try exact absurd h2 (by decide)) <;> (simp only [Da] at hd he; subst hd; subst he; rfl)
theorem flats_ok : ∀ {ds : List PyData} {vs : List V}, (ds.all flatD) = true → DaAll F ds vs → vs.all flatV = true
  | [], _, _, h => by obtain rfl := (show _ = [] from h); rfl
  | d :: ds, _, hf, h => by
    obtain ⟨v, r, rfl, h1, h2⟩ := (show ∃ v r, _ = v :: r ∧ Da F d v ∧ DaAll F ds r from h)
    have hf' : flatD d = true ∧ ds.all flatD = true := by simpa using hf
    simp only [List.all_cons, Bool.and_eq_true]
    exact ⟨flat_ok hf'.1 h1, flats_ok hf'.2 h2⟩
theorem inD_ok {d : PyData} (hd : flatD d = true) (hu : Da F d u) : ∀ {ds : List PyData} {vs : List V}, (ds.all flatD) = true → DaAll F ds vs → inV u vs = inD d ds
  | [], _, _, h => by obtain rfl := (show _ = [] from h); rfl
  | e :: ds, _, hf, h => by
    obtain ⟨v, r, rfl, h1, h2⟩ := (show ∃ v r, _ = v :: r ∧ Da F e v ∧ DaAll F ds r from h)
    have hf' : flatD e = true ∧ ds.all flatD = true := by simpa using hf
    have ih := inD_ok hd hu hf'.2 h2
    unfold inV inD at ih ⊢
    rw [List.any_cons, List.any_cons, ih, eqF_ok hf'.1 hd h1 hu]
def inT (neg : Bool) : AVal → AVal → TTA := fun x y s Q => match view s y with
  | .dct kvs => onSome x.key? fun k => Q ((getA kvs k).isSome != neg) s
  | .txt z => onSome x.str? fun w => onSome (w.cps.toList.head?) fun c => w = ⟨#[c]⟩ ∧ Q (decide (c ∈ z.cps.toList) != neg) s
  | _ => onSome (listOf s y) fun ds => onSome x.data? fun d => (flatD d = true ∧ ds.all flatD = true) ∧ Q (inD d ds != neg) s
theorem op_dnotin (hu : X.A.units + 1 < cLine) : OpR X (compareOp .NotIn) (fun x y H Q => ∃ a o, y = .ref a ∧ DGet H a x o ∧ Q (.bl (!o.isSome)) H) := by
  intro pins s σ H x y v u Q I rx ry h
  obtain ⟨a, o, rfl, g, q⟩ := h
  cases ry
  exact d_notIn hu I g rx fun s3 I3 => ⟨.bl (!o.isSome), H, I3, rfl, q⟩
theorem getA_isSome {kvs : List (Key × AVal)} {es : List (Key × V)} {k : Key} (h : KrOk ad F kvs es) : (valV es k).isSome = (getA kvs k).isSome := by
  have := h.get (k := k)
  cases hg : getA kvs k with
  | none => rw [hg] at this; rw [this]; rfl
  | some x => rw [hg] at this; obtain ⟨v, hv, _⟩ := this; rw [hv]; rfl
theorem o_notIn (hu : X.A.units + 1 < cLine) : OpT X B (compareOp .NotIn) (inT true) := fun ad F H s σ x y u v Q r hx hy t => by
  unfold inT at t
  split at t
  · rename_i kvs hk
    obtain ⟨k, ek, q⟩ := t
    obtain ⟨l, es, rfl, hl, hp⟩ := hy.dct r hk
    have := AVal.key?_ok ek hx
    subst this
    refine ⟨_, _, q, op_dnotin hu, fun K kk => ⟨l, valV es k, rfl, .inl ⟨es, _, hl, rfl, rfl⟩, ?_⟩⟩
    rw [getA_isSome hp]
    simpa using kk
  · rename_i z hz
    obtain ⟨w, ew, c, ec, e2, q⟩ := t
    have := AVal.str?_of ew
    subst this
    have := hy.txt r hz
    subst this
    subst e2
    exact ⟨_, _, q, op_notIn_sign, fun K kk => ⟨c, z, hx, rfl, by simpa using kk⟩⟩
  · obtain ⟨ds, e, d, ed, ⟨f1, f2⟩, q⟩ := t
    have := AVal.data?_of ed
    subst this
    obtain ⟨l, vs, rfl, h1, h2⟩ := hy.list r e
    exact ⟨_, _, q, op_notIn_seq, fun K kk => ⟨l, vs, rfl, .inl (SqL.of h1), flat_ok f1 hx, flats_ok f2 h2, by rw [inD_ok f1 hx f2 h2]; simpa using kk⟩⟩
/-! ## == [], != [] -/
def nilT (neg : Bool) (ta : TEA) : TTA := fun s Q => ta s fun x s1 => onSome (listOf s1 x) fun ds => Q (ds.isEmpty != neg) s1
theorem op_neLen (hu : X.A.units + 64 < cLine) : OpR X (compareOp .NotEq) (rNeLen X.K) := by
  intro pins s σ H x y v u Q I rx ry h
  obtain ⟨a, b, xs, ys, rfl, rfl, h1, h2, hne, q⟩ := h
  cases rx; cases ry
  obtain ⟨its, rv, hl, hz⟩ := I.list h1
  obtain ⟨its2, rv2, hl2, hz2⟩ := I.list h2
  refine SeqAt.RcNeAt.lists_lengths hl.isList hl2.isList ?_ (by omega) _ _ _ _ ⟨.bl true, H, I, rfl, q⟩
  have e1 := rv.length
  have e2 := rv2.length
  simp only [List.size_toArray, bne_iff_ne, ne_eq]
  omega
theorem nilOp (neg : Bool) (hu : X.A.units + 64 < cLine) {ds : List PyData} {l m : Addr} {vs : List V} (h1 : H l = some (.lst vs)) (h2 : DaAll F ds vs) (h3 : H m = some (.lst [])) : ∃ r, OpR X (compareOp (if neg then .NotEq else .Eq)) r ∧ ∀ K : VK, K (.bl (ds.isEmpty != neg)) H → r (.ref l) (.ref m) H K := by
  cases ds with
  | nil =>
    obtain rfl : vs = [] := h2
    have d1 : Dp X.K H (.ref l) (.list []) := .lst (SqL.of h1) .nil
    have d2 : Dp X.K H (.ref m) (.list []) := .lst (SqL.of h3) .nil
    cases neg with
    | false => exact ⟨_, op_eqD hu, fun K k => ⟨_, _, d1, d2, rfl, rfl, k⟩⟩
    | true => exact ⟨_, op_neD hu, fun K k => ⟨_, _, d1, d2, rfl, rfl, k⟩⟩
  | cons d ds =>
    have hl := h2.length
    cases neg with
    | false => exact ⟨_, op_eqLen hu, fun K k => ⟨l, m, vs, [], rfl, rfl, SqL.of h1, SqL.of h3, by rw [hl]; simp, k⟩⟩
    | true => exact ⟨_, op_neLen hu, fun K k => ⟨l, m, vs, [], rfl, rfl, SqL.of h1, SqL.of h3, by rw [hl]; simp, k⟩⟩
theorem we_nil {Q : VK} (q : ∀ p, H p = none → Q (.ref p) (upd H p (.lst []))) {lp : Pos} : WE X (.List [] lp) σ H Q := we_of (pe_lst pa_nil) ⟨by decide, fun p hp => q p hp⟩
theorem nil_run (neg : Bool) (hu : X.A.units + 64 < cLine) (ha : EA X B a ta) {lp : Pos} {Q : Bool → AS → Prop} {K : Bool → VK} (r : Rl B ad F H s σ) (t : nilT neg ta s Q) (hK : ∀ b H', PostT B ad F σ Q b H' → K b (.bl b) H') :
    WE X a σ H fun u H1 => WE X (.List [] lp) σ H1 fun v H2 => rAny X (compareOp (if neg then .NotEq else .Eq)) u v H2 fun w H3 => ∃ b, w = .bl b ∧ K b w H3 :=
  (ha.run ad F H s σ _ r t).imp fun u H1 q => by
    obtain ⟨ad1, F1, x, s1, e1, k1, r1, v1, ds, ed, q⟩ := q
    refine we_nil fun p hp => ?_
    have r2 := r1.gr ((Gr.refl r1.fh).open' (o := .lst []) hp)
    obtain ⟨l, vs, rfl, h1, h2⟩ := v1.list r1 ed
    have hlp : l ≠ p := ne_of_none h1 hp
    obtain ⟨rr, ho, hk⟩ := nilOp (X := X) neg hu (H := upd H1 p (.lst [])) (l := l) (m := p) (by rw [upd_ne hlp]; exact h1) h2 upd_same
    exact ⟨rr, ho, hk _ ⟨_, rfl, hK _ _ ⟨ad1, F1, s1, e1, k1, r2, q⟩⟩⟩
theorem et_eqNil (hu : X.A.units + 64 < cLine) (ha : EA X B a ta) {lp : Pos} : ET X B (.Compare a [.Eq] [.List [] lp] pos) (nilT false ta) := ⟨fun ad F H s σ Q r t =>
  wt_of (pt_cmpR (op_any _) pe_we pe_we (nomark _)) (nil_run false hu ha r t (K := fun b w H3 => PostT B ad F σ Q b H3) fun _ _ h => h)⟩
theorem et_neNil (hu : X.A.units + 64 < cLine) (ha : EA X B a ta) {lp : Pos} : ET X B (.Compare a [.NotEq] [.List [] lp] pos) (nilT true ta) := ⟨fun ad F H s σ Q r t =>
  wt_of (pt_cmpR (op_any _) pe_we pe_we (nomark _)) (nil_run true hu ha r t (K := fun b w H3 => PostT B ad F σ Q b H3) fun _ _ h => h)⟩
theorem rAny_imp {f : Value → Value → Sem Value} {Q Q' : VK} (h : rAny X f u v H Q) (k : ∀ w H', Q w H' → Q' w H') : rAny X f u v H Q' := by
  obtain ⟨r, h1, h2⟩ := h
  exact ⟨fun u v H K => ∃ K', (∀ w H', K' w H' → K w H') ∧ r u v H K', fun pins s σ H x y v u Q I rx ry ⟨K', k1, k2⟩ => thn (h1 pins s σ H x y v u K' I rx ry k2) fun z s' ⟨w, H', I', rz, qz⟩ => ⟨w, H', I', rz, k1 w H' qz⟩, _, k, h2⟩
theorem ea_eqNil (hu : X.A.units + 64 < cLine) (ha : EA X B a ta) {lp : Pos} : EA X B (.Compare a [.Eq] [.List [] lp] pos) (boolA (nilT false ta)) := ⟨fun ad F H s σ Q r t =>
  we_of (pe_cmpR (op_any _) pe_we pe_we (nomark _)) ((nil_run false hu ha r t (K := fun b w H3 => Post B ad F σ Q w H3) fun b H' ⟨ad2, F2, a2, e, k, r2, q⟩ => ⟨ad2, F2, .d (.bool b), a2, e, k, r2, rfl, q⟩).imp fun u H1 q => q.imp fun v H2 q => rAny_imp q fun w H3 ⟨b, _, p⟩ => p)⟩
end
end Kr
/-! layer A8 -/
namespace Kr
open PySem L2
def strs? : List PyData → Option (List Str)
  | [] => some []
  | .str x :: ds => (strs? ds).map (x :: ·)
  | _ => none
def ints? : List PyData → Option (List Int)
  | [] => some []
  | .int x :: ds => (ints? ds).map (x :: ·)
  | _ => none
theorem strs?_of : ∀ {ds : List PyData} {xs : List Str}, strs? ds = some xs → ds = xs.map .str
  | [], xs, h => by cases h; rfl
  | .str x :: ds, xs, h => by
    have h' : (strs? ds).map (x :: ·) = some xs := h
    cases hs : strs? ds with
    | none => rw [hs] at h'; cases h'
    | some ys => rw [hs] at h'; cases h'; rw [strs?_of hs]; rfl
  | .none :: _, _, h => by cases h
  | .bool _ :: _, _, h => by cases h
  | .int _ :: _, _, h => by cases h
  | .list _ :: _, _, h => by cases h
  | .tuple _ :: _, _, h => by cases h
  | .dict _ :: _, _, h => by cases h
theorem ints?_of : ∀ {ds : List PyData} {xs : List Int}, ints? ds = some xs → ds = xs.map .int
  | [], xs, h => by cases h; rfl
  | .int x :: ds, xs, h => by
    have h' : (ints? ds).map (x :: ·) = some xs := h
    cases hs : ints? ds with
    | none => rw [hs] at h'; cases h'
    | some ys => rw [hs] at h'; cases h'; rw [ints?_of hs]; rfl
  | .none :: _, _, h => by cases h
  | .bool _ :: _, _, h => by cases h
  | .str _ :: _, _, h => by cases h
  | .list _ :: _, _, h => by cases h
  | .tuple _ :: _, _, h => by cases h
  | .dict _ :: _, _, h => by cases h
theorem strs?_map (xs : List Str) : strs? (xs.map .str) = some xs := by
  induction xs with
  | nil => rfl
  | cons x xs ih => show (strs? (xs.map .str)).map _ = _; rw [ih]; rfl
theorem ints?_map (xs : List Int) : ints? (xs.map .int) = some xs := by
  induction xs with
  | nil => rfl
  | cons x xs ih => show (ints? (xs.map .int)).map _ = _; rw [ih]; rfl
def srtD (ds : List PyData) : Option (List PyData) := match strs? ds with
  | some xs => some ((srt xs).map .str)
  | none => (ints? ds).map fun ns => (srtI ns).map .int
theorem srtD_strs (xs : List Str) : srtD (xs.map .str) = some ((srt xs).map .str) := by unfold srtD; rw [strs?_map]
theorem srtD_ints (xs : List Int) : srtD (xs.map .int) = some ((srtI xs).map .int) := by
  cases xs with
  | nil => simp [srtD, strs?, srt, srtI]
  | cons x xs =>
    have : strs? ((x :: xs).map .int) = none := rfl
    unfold srtD
    rw [this, ints?_map]
    rfl
section
variable {X : Cx} {B : Bs} {ad : List Addr} {F H : Hp} {s : AS} {σ : St} {x y : AVal} {u v : V} {a b c e f o value : Expr} {es : List Expr} {pos p p2 q q2 apos cpos tpos pos2 : Pos} {ta tb tc to : TEA} {tl : TLA} {name : Str}
/-! ## calls of what is built in -/
def rAnyC (X : Cx) (g : Value) : List V → Hp → VK → Prop := fun us H Q => ∃ r, CallR X g r ∧ r us H Q
theorem cr_any (g : Value) : CallR X g (rAnyC X g) := fun pins s σ H xs us Q I r ⟨q, h, k⟩ => h pins s σ H xs us Q I r k
theorem rAnyC_imp {g : Value} {us : List V} {Q Q' : VK} (h : rAnyC X g us H Q) (k : ∀ w H', Q w H' → Q' w H') : rAnyC X g us H Q' := by
  obtain ⟨r, h1, h2⟩ := h
  exact ⟨fun us H K => ∃ K', (∀ w H', K' w H' → K w H') ∧ r us H K', fun pins s σ H xs us Q I rx ⟨K', k1, k2⟩ => thn (h1 pins s σ H xs us K' I rx k2) fun z s' ⟨w, H', I', rz, qz⟩ => ⟨w, H', I', rz, k1 w H' qz⟩, _, k, h2⟩
def CalA (X : Cx) (B : Bs) (g : Value) (rr : List AVal → TEA) : Prop := ∀ ad F H s σ xs us Q, Rl B ad F H s σ → Paired (VOk ad F) xs us → rr xs s Q → rAnyC X g us H (Post B ad F σ Q)
def CalN (X : Cx) (B : Bs) (g : Value) (rr : List AVal → TNA) : Prop := ∀ ad F H s σ xs us Q, Rl B ad F H s σ → Paired (VOk ad F) xs us → rr xs s Q → rAnyC X g us H (PostN B ad F σ Q)
def bltA (rr : List AVal → TEA) (tl : TLA) : TEA := fun s Q => tl s fun xs s1 => rr xs s1 Q
def bltN (rr : List AVal → TNA) (tl : TLA) : TNA := fun s Q => tl s fun xs s1 => rr xs s1 Q
theorem ea_blt {id : String} {rr : List AVal → TEA} (hc : CalA X B (.builtin id) rr) (hm : X.mg name = none) (ha : EL X B (e :: es) tl) (hv : bootBuiltins name = some (.builtin id) := by decide +kernel) (hg : Gl X name := by rfl) (n : Nm name := by exact ⟨by decide, by decide⟩) (l : Pl X e es pos := by exact ⟨rfl, rfl⟩) :
    EA X B (.Call (.Name name p) (e :: es) [] pos) (bltA rr tl) := ⟨fun ad F H s σ Q r t => we_of (pe_callB (cr_any _) hg hm hv pa_wa n.hn n.hdb l.he l.hpl) ((ha.run ad F H s σ _ r t).imp fun vs H1 q => by
  obtain ⟨ad1, F1, xs, s1, e1, k1, r1, hvs, hln, q⟩ := q
  exact rAnyC_imp (hc ad1 F1 H1 s1 σ xs vs Q r1 hvs q) fun w H' h => h.up e1 k1)⟩
theorem ea_bty {id : String} {rr : List AVal → TEA} (hc : CalA X B (.type id) rr) (hm : X.mg name = none) (ha : EL X B (e :: es) tl) (hv : bootBuiltins name = some (.type id) := by decide +kernel) (hg : Gl X name := by rfl) (n : Nm name := by exact ⟨by decide, by decide⟩) (l : Pl X e es pos := by exact ⟨rfl, rfl⟩) :
    EA X B (.Call (.Name name p) (e :: es) [] pos) (bltA rr tl) := ⟨fun ad F H s σ Q r t => we_of (pe_callTy (cr_any _) hg hm hv pa_wa n.hn n.hdb l.he l.hpl) ((ha.run ad F H s σ _ r t).imp fun vs H1 q => by
  obtain ⟨ad1, F1, xs, s1, e1, k1, r1, hvs, hln, q⟩ := q
  exact rAnyC_imp (hc ad1 F1 H1 s1 σ xs vs Q r1 hvs q) fun w H' h => h.up e1 k1)⟩
theorem en_blt {id : String} {rr : List AVal → TNA} (hc : CalN X B (.builtin id) rr) (hm : X.mg name = none) (ha : EL X B (e :: es) tl) (hv : bootBuiltins name = some (.builtin id) := by decide +kernel) (hg : Gl X name := by rfl) (n : Nm name := by exact ⟨by decide, by decide⟩) (l : Pl X e es pos := by exact ⟨rfl, rfl⟩) :
    EN X B (.Call (.Name name p) (e :: es) [] pos) (bltN rr tl) := ⟨fun ad F H s σ Q r t => we_of (pe_callB (cr_any _) hg hm hv pa_wa n.hn n.hdb l.he l.hpl) ((ha.run ad F H s σ _ r t).imp fun vs H1 q => by
  obtain ⟨ad1, F1, xs, s1, e1, k1, r1, hvs, hln, q⟩ := q
  exact rAnyC_imp (hc ad1 F1 H1 s1 σ xs vs Q r1 hvs q) fun w H' h => h.up e1 k1)⟩
theorem en_bty {id : String} {rr : List AVal → TNA} (hc : CalN X B (.type id) rr) (hm : X.mg name = none) (ha : EL X B (e :: es) tl) (hv : bootBuiltins name = some (.type id) := by decide +kernel) (hg : Gl X name := by rfl) (n : Nm name := by exact ⟨by decide, by decide⟩) (l : Pl X e es pos := by exact ⟨rfl, rfl⟩) :
    EN X B (.Call (.Name name p) (e :: es) [] pos) (bltN rr tl) := ⟨fun ad F H s σ Q r t => we_of (pe_callTy (cr_any _) hg hm hv pa_wa n.hn n.hdb l.he l.hpl) ((ha.run ad F H s σ _ r t).imp fun vs H1 q => by
  obtain ⟨ad1, F1, xs, s1, e1, k1, r1, hvs, hln, q⟩ := q
  exact rAnyC_imp (hc ad1 F1 H1 s1 σ xs vs Q r1 hvs q) fun w H' h => h.up e1 k1)⟩
def one (k : AVal → Prop) : List AVal → Prop
  | [x] => k x
  | _ => False
theorem one_ok {k : AVal → Prop} {xs : List AVal} {us : List V} (h : one k xs) (hp : Paired (VOk ad F) xs us) : ∃ x u, xs = [x] ∧ us = [u] ∧ VOk ad F x u ∧ k x := by
  match xs, us, hp, h with
  | [x], _, .cons (b := u) h1 .nil, h => exact ⟨x, u, rfl, rfl, h1, h⟩
def lenA (xs : List AVal) : TEA := fun s Q => one (fun x => match view s x with
  | .seq ys => Q (.d (.int ys.length)) s
  | .dct kvs => Q (.d (.int kvs.length)) s
  | .txt z => z.length ≤ sizeLine ∧ Q (.d (.int z.length)) s
  | .oth => False) xs
theorem call_lenR : CallR X (.builtin "len") (fun xs H Q => ∃ a kvs, xs = [V.ref a] ∧ Rd H a (.dK kvs) ∧ Q (.int kvs.length) H) := by
  intro pins s σ H xs us Q I r h
  obtain ⟨a, kvs, rfl, ha, q⟩ := h
  obtain ⟨u, rfl, ru⟩ := vals1 r
  cases ru
  exact d_len I ha fun t s' I' => ⟨.int kvs.length, H, I', ⟨t, rfl⟩, q⟩
theorem c_len : CalA X B (.builtin "len") lenA := fun ad F H s σ xs us Q r hp t => by
  obtain ⟨x, u, rfl, rfl, hx, t⟩ := one_ok t hp
  split at t
  · rename_i ys hy
    obtain ⟨l, vs, rfl, h1, h2⟩ := hx.seq r hy
    have hl := Paired.len h2
    rcases h1 with h1 | h1
    · exact ⟨_, call_len, _, vs.length, rfl, .inl ⟨vs, SqL.of h1, rfl⟩, .here (x := .d (.int ys.length)) r (by rw [hl]; rfl) t⟩
    · exact ⟨_, call_len, _, vs.length, rfl, .inr ⟨vs, SqT.of h1, rfl⟩, .here (x := .d (.int ys.length)) r (by rw [hl]; rfl) t⟩
  · rename_i kvs hk
    obtain ⟨l, es, rfl, h1, h2⟩ := hx.dct r hk
    have hl := Paired.len h2
    exact ⟨_, call_lenR, l, es, rfl, h1, .here (x := .d (.int kvs.length)) r (by rw [hl]; rfl) t⟩
  · rename_i z hz
    have := hx.txt r hz
    subst this
    exact ⟨_, call_len, _, z.length, rfl, ⟨t.1, rfl⟩, .here (x := .d (.int z.length)) r rfl t.2⟩
  · exact t.elim
def listN (xs : List AVal) : TNA := fun s Q => one (fun x => onSome (listOf s x) fun ds => Q (.lst ds) s) xs
theorem c_list : CalN X B (.type "list") listN := fun ad F H s σ xs us Q r hp t => by
  obtain ⟨x, u, rfl, rfl, hx, ds, e, q⟩ := one_ok t hp
  obtain ⟨l, vs, rfl, h1, h2⟩ := hx.list r e
  exact ⟨_, call_list_of, l, vs, rfl, .inl (SqL.of h1), fun p hp => .here (c := .lst ds) r hp ⟨_, upd_same, h2⟩ rfl q⟩
/-- sorted of a dict of texts -/
def txtKeys : List (Key × AVal) → Option (List Str)
  | [] => some []
  | p :: r => match p.1 with
    | .inr x => (txtKeys r).map (x :: ·)
    | .inl _ => none
theorem txtKeys_ok : ∀ {kvs : List (Key × AVal)} {es : List (Key × V)} {ks : List Str}, txtKeys kvs = some ks → KrOk ad F kvs es → es.map (·.1) = ks.map Sum.inr
  | [], _, ks, h, .nil => by cases h; rfl
  | p :: r, _, ks, h, .cons (b := q) hq t => by
    have h' : (match p.1 with | .inr x => (txtKeys r).map (x :: ·) | .inl _ => none) = some ks := h
    split at h'
    · rename_i x hx
      cases hr : txtKeys r with
      | none => rw [hr] at h'; cases h'
      | some ys =>
        rw [hr] at h'
        cases h'
        show q.1 :: _ = Sum.inr x :: _
        rw [txtKeys_ok hr t, ← hq.1, hx]
    · cases h'
def sortedN (xs : List AVal) : TNA := fun s Q => one (fun x => match view s x with
  | .dct kvs => onSome (txtKeys kvs) fun ks => ks.length < 64 ∧ Q (.lst ((srt ks).map .str)) s
  | _ => onSome (listOf s x) fun ds => onSome (srtD ds) fun es => Q (.lst es) s) xs
theorem c_sorted (hc : X.calm = true) : CalN X B (.builtin "sorted") sortedN := fun ad F H s σ xs us Q r hp t => by
  obtain ⟨x, u, rfl, rfl, hx, t⟩ := one_ok t hp
  split at t
  · rename_i kvs hk
    obtain ⟨ks, e, hl, q⟩ := t
    obtain ⟨l, es, rfl, h1, h2⟩ := hx.dct r hk
    refine ⟨_, call_sortedD hc, l, es, ks, rfl, h1, txtKeys_ok e h2, hl, fun ys p hp hs hn => ?_⟩
    have := srt_eq hp hs
    subst this
    exact .here (c := .lst ((srt ks).map .str)) r hn ⟨_, upd_same, daAll_strs _⟩ rfl q
  · obtain ⟨ds, e, es, e2, q⟩ := t
    obtain ⟨l, vs, rfl, h1, h2⟩ := hx.list r e
    unfold srtD at e2
    split at e2
    · rename_i ss hs
      cases e2
      have := strs?_of hs
      subst this
      obtain rfl := h2.strs
      exact ⟨_, cr_sortedSA, l, ss, rfl, SqL.of h1, fun p hp => .here (c := .lst ((srt ss).map .str)) r hp ⟨_, upd_same, daAll_strs _⟩ rfl q⟩
    · rename_i hs
      cases hi : ints? ds with
      | none => rw [hi] at e2; cases e2
      | some ns =>
        rw [hi] at e2
        cases e2
        have := ints?_of hi
        subst this
        obtain rfl := h2.ints
        refine ⟨_, cr_sortedI, l, ns, rfl, SqL.of h1, fun ns' p hp hs hn => ?_⟩
        have := ints_unique (hp.trans (srtI_perm ns).symm) hs (srtI_sorted ns)
        subst this
        exact .here (c := .lst ((srtI ns).map .int)) r hn ⟨_, upd_same, daAll_ints _⟩ rfl q
/-- sorted(set(..)) of texts -/
def ssetN (ta : TEA) : TNA := fun s Q => ta s fun x s1 => onSome (listOf s1 x) fun ds => onSome (strs? ds) fun xs => xs.length ≤ 4000 ∧ Q (.lst ((kset xs).map .str)) s1
def sumA (xs : List AVal) : TEA := fun s Q => one (fun x => onSome (listOf s x) fun ds => onSome (ints? ds) fun ns => Q (.d (.int ns.sum)) s) xs
def two (k : AVal → AVal → Prop) : List AVal → Prop
  | [x, y] => k x y
  | _ => False
theorem two_ok {k : AVal → AVal → Prop} {xs : List AVal} {us : List V} (h : two k xs) (hp : Paired (VOk ad F) xs us) : ∃ x y u v, xs = [x, y] ∧ us = [u, v] ∧ VOk ad F x u ∧ VOk ad F y v ∧ k x y := by
  match xs, us, hp, h with
  | [x, y], _, .cons (b := u) h1 (.cons (b := v) h2 .nil), h => exact ⟨x, y, u, v, rfl, rfl, h1, h2, h⟩
def minA (xs : List AVal) : TEA := fun s Q => two (fun x y => onSome x.int? fun i => onSome y.int? fun j => Q (.d (.int (min i j))) s) xs
def maxA (xs : List AVal) : TEA := fun s Q => two (fun x y => onSome x.int? fun i => onSome y.int? fun j => Q (.d (.int (max i j))) s) xs
theorem c_min (hc : X.calm = true) : CalA X B (.builtin "min") minA := fun ad F H s σ xs us Q r hp t => by
  obtain ⟨x, y, u, v, rfl, rfl, hx, hy, i, ei, j, ej, q⟩ := two_ok t hp
  have e1 := AVal.int?_of ei
  have e2 := AVal.int?_of ej
  subst e1; subst e2
  obtain rfl : u = .int i := hx
  obtain rfl : v = .int j := hy
  refine ⟨_, call_min2 hc, i, j, rfl, .here (x := .d (.int (min i j))) r ?_ q⟩
  show V.int _ = V.int _
  congr 1
  split <;> omega
theorem c_max (hc : X.calm = true) : CalA X B (.builtin "max") maxA := fun ad F H s σ xs us Q r hp t => by
  obtain ⟨x, y, u, v, rfl, rfl, hx, hy, i, ei, j, ej, q⟩ := two_ok t hp
  have e1 := AVal.int?_of ei
  have e2 := AVal.int?_of ej
  subst e1; subst e2
  obtain rfl : u = .int i := hx
  obtain rfl : v = .int j := hy
  refine ⟨_, call_max2 hc, i, j, rfl, .here (x := .d (.int (max i j))) r ?_ q⟩
  show V.int _ = V.int _
  congr 1
  split <;> omega
def intA (xs : List AVal) : TEA := fun s Q => one (fun x => match x with
  | .d (.int i) => Q (.d (.int i)) s
  | .d (.bool b) => Q (.d (.int (if b then 1 else 0))) s
  | _ => False) xs
theorem c_int : CalA X B (.type "int") intA := fun ad F H s σ xs us Q r hp t => by
  obtain ⟨x, u, rfl, rfl, hx, t⟩ := one_ok t hp
  cases x with
  | r n => exact t.elim
  | s _ _ => exact t.elim
  | a _ _ _ => exact t.elim
  | d y =>
    cases y with
    | int i =>
      obtain rfl : u = .int i := hx
      exact ⟨_, call_int1, .inl ⟨i, rfl, .here (x := .d (.int i)) r rfl t⟩⟩
    | bool b =>
      obtain rfl : u = .bl b := hx
      exact ⟨_, call_int1, .inr ⟨b, rfl, .here (x := .d (.int (if b then 1 else 0))) r rfl t⟩⟩
    | _ => exact t.elim
/-! ## isinstance -/
def kdTy : Kd → Option String
  | .lst => some "list"
  | .tup => some "tuple"
  | .dct _ => some "dict"
  | .dctT _ => none
  | .obj _ _ _ => none
theorem kdTy_ok {k : Kd} {q : Addr} {vs : List V} {tn : String} (e : kdTy k = some tn) (h : H q = some (k.ho vs)) : TyX X.K H (.ref q) (.type tn) := by
  cases k with
  | lst => cases e; exact .base (.lst h)
  | tup => cases e; exact .base (.tup h)
  | dct ks => cases e; exact .base (.dK h)
  | dctT ks => cases e
  | obj _ _ _ => cases e
def nodeK (s : AS) (x : AVal) : Option Kd := (nodeAt s x).map fun p => p.2.2.1
theorem nodeK_ok {k : Kd} (r : Rl B ad F H s σ) (h : VOk ad F x u) (e : nodeK s x = some k) : ∃ q vs, u = .ref q ∧ H q = some (k.ho vs) := by
  unfold nodeK at e
  cases hn : nodeAt s x with
  | none => rw [hn] at e; cases e
  | some p =>
    obtain ⟨m, pt', k', q, ys⟩ := p
    rw [hn] at e
    cases e
    obtain ⟨t, p', vs, N⟩ := nodeAt_ok r h hn
    exact ⟨q, vs, N.val, N.ho⟩
def tyD (d : PyData) : Option String := if noEx d = true then some (tyName d) else none
theorem tyD_ok {d : PyData} {tn : String} {F : Hp} {K : PySem.W.Frag} {v : V} (e : tyD d = some tn) (h : Da F d v) : TyX K F v (.type tn) := by
  unfold tyD at e
  split at e
  · rename_i n; cases e; exact da_ty h n
  · cases e
def tyOf (s : AS) : AVal → Option String
  | .d x => tyD x
  | .r n => match s.cs[n]? with
    | some (.lst _) => some "list"
    | some (.nl _) => some "list"
    | some (.nt _) => some "tuple"
    | some (.dK _) => some "dict"
    | some (.nd _) => some "dict"
    | some (.fz x) => tyD x
    | some (.tr (.nd k _ _)) => kdTy k
    | _ => none
  | .s _ _ => none
  | .a p n pt => (nodeK s (.a p n pt)).bind kdTy
theorem tyOf_ok {tn : String} (r : Rl B ad F H s σ) (h : VOk ad F x u) (e : tyOf s x = some tn) : TyX X.K H u (.type tn) := by
  cases x with
  | s _ _ => cases e
  | d y => exact tyD_ok e (Da.mono r.fh h)
  | r n =>
    obtain ⟨a, h1, rfl⟩ := h
    simp only [tyOf] at e
    split at e
    · rename_i ds hc; cases e; obtain ⟨_, _, vs, h2, _⟩ := r.cel n a _ h1 hc; exact .base (.lst h2)
    · rename_i ds hc; cases e; obtain ⟨_, _, vs, h2, _⟩ := r.cel n a _ h1 hc; exact .base (.lst h2)
    · rename_i ds hc; cases e; obtain ⟨_, _, vs, h2, _⟩ := r.cel n a _ h1 hc; exact .base (.tup h2)
    · rename_i ds hc; cases e; obtain ⟨_, _, vs, h2, _⟩ := r.cel n a _ h1 hc; exact .base (.dK h2)
    · rename_i ds hc; cases e; obtain ⟨_, _, vs, h2, _⟩ := r.cel n a _ h1 hc; exact .base (.dK h2)
    · rename_i y hc; obtain ⟨_, _, h4⟩ := r.cel n a _ h1 hc; exact tyD_ok e (Da.mono (d := y) r.fh h4)
    · rename_i k q ys hc
      obtain ⟨_, _, h2, h3⟩ := r.cel n a _ h1 hc
      cases h2
      obtain ⟨_, vs, h4, _⟩ := h3.node
      exact kdTy_ok e h4
    · cases e
  | a p n pt =>
    have e' : (nodeK s (.a p n pt)).bind kdTy = some tn := e
    cases hk : nodeK s (.a p n pt) with
    | none => rw [hk] at e'; cases e'
    | some k =>
      rw [hk] at e'
      obtain ⟨q, vs, rfl, h1⟩ := nodeK_ok r h hk
      exact kdTy_ok e' h1
def isiT (tn : String) (ta : TEA) : TEA := fun s Q => ta s fun x s1 => onSome (tyOf s1 x) fun t => onSome (kitB t tn) fun b => Q (.d (.bool b)) s1
theorem ea_isi {T : Str} {tn : String} {q1 q2 : Pos} (hm : X.mg "isinstance" = none) (hmT : X.mg T = none) (ha : EA X B e ta) (hv : bootBuiltins T = some (.type tn) := by decide +kernel) (hg : Gl X "isinstance" := by rfl) (hgT : Gl X T := by rfl) (n : Nm T := by exact ⟨by decide, by decide⟩)
    (l : Pl X e [.Name T pos] q2 := by exact ⟨rfl, rfl⟩) (l2 : starEach [.Name T pos] X.env = [(false, eval (.Name T pos) X.env)] := by rfl) : EA X B (.Call (.Name "isinstance" q1) [e, .Name T pos] [] q2) (isiT tn ta) := ⟨fun ad F H s σ Q r t =>
  we_of (pe_callB call_isi hg hm (by decide +kernel) (pa_cons pe_we (pa_cons (pe_bltn (v := .ty tn) hgT hmT hv rfl n.hn n.hdb) pa_nil l2) l.he) (by decide) (by decide) l.he l.hpl) ((ha.run ad F H s σ _ r t).imp fun v H1 q => by
    obtain ⟨ad1, F1, x, s1, e1, k1, r1, hv2, t, et, b, eb, q⟩ := q
    exact ⟨v, .ty tn, .type t, .type tn, b, rfl, .ty tn, tyOf_ok r1 hv2 et, kit_ty eb, (Post.here (x := .d (.bool b)) r1 rfl q).up e1 k1⟩)⟩
/-! ## methods -/
def rAnyM (X : Cx) (id : String) : V → List V → Hp → VK → Prop := fun u us H Q => ∃ r, MtR X id r ∧ r u us H Q
theorem mt_any (id : String) : MtR X id (rAnyM X id) := fun pins s σ H x xs v us Q I rx r ⟨q, h, k⟩ => h pins s σ H x xs v us Q I rx r k
theorem rAnyM_imp {id : String} {us : List V} {Q Q' : VK} (h : rAnyM X id u us H Q) (k : ∀ w H', Q w H' → Q' w H') : rAnyM X id u us H Q' := by
  obtain ⟨r, h1, h2⟩ := h
  exact ⟨fun u us H K => ∃ K', (∀ w H', K' w H' → K w H') ∧ r u us H K', fun pins s σ H x xs v us Q I rx rxs ⟨K', k1, k2⟩ => thn (h1 pins s σ H x xs v us K' I rx rxs k2) fun z s' ⟨w, H', I', rz, qz⟩ => ⟨w, H', I', rz, k1 w H' qz⟩, _, k, h2⟩
def MtA (X : Cx) (B : Bs) (id : String) (rr : AVal → List AVal → TEA) : Prop := ∀ ad F H s σ x xs u us Q, Rl B ad F H s σ → VOk ad F x u → Paired (VOk ad F) xs us → rr x xs s Q → rAnyM X id u us H (Post B ad F σ Q)
def isLst (s : AS) : AVal → Bool
  | .d (.list _) => true
  | .r n => match s.cs[n]? with
    | some (.lst _) => true
    | some (.nl _) => true
    | some (.fz (.list _)) => true
    | some (.tr (.nd .lst _ _)) => true
    | _ => false
  | .a p n pt => match nodeK s (.a p n pt) with
    | some .lst => true
    | _ => false
  | _ => false
theorem isLst_ok (r : Rl B ad F H s σ) (h : VOk ad F x u) (e : isLst s x = true) : tyV X.K "list" u H := by
  unfold isLst at e
  split at e
  · obtain ⟨a, xs, rfl, h1, _⟩ := h; exact .inl ⟨rfl, xs, SqL.of (r.fh _ _ h1)⟩
  · rename_i n
    obtain ⟨a, h1, rfl⟩ := h
    split at e
    · rename_i ds hc; obtain ⟨_, _, vs, h2, _⟩ := r.cel n a _ h1 hc; exact .inl ⟨rfl, vs, SqL.of h2⟩
    · rename_i ds hc; obtain ⟨_, _, vs, h2, _⟩ := r.cel n a _ h1 hc; exact .inl ⟨rfl, vs, SqL.of h2⟩
    · rename_i ds hc
      obtain ⟨_, _, h4⟩ := r.cel n a _ h1 hc
      obtain ⟨a', xs, e', h2, h3⟩ := h4
      cases e'
      exact .inl ⟨rfl, xs, SqL.of (r.fh _ _ h2)⟩
    · rename_i q ys hc
      obtain ⟨_, _, h2, h3⟩ := r.cel n a _ h1 hc
      cases h2
      obtain ⟨_, vs, h4, _⟩ := h3.node
      exact .inl ⟨rfl, vs, SqL.of h4⟩
    · cases e
  · split at e
    · rename_i hk
      obtain ⟨q, vs, rfl, h1⟩ := nodeK_ok r h hk
      exact .inl ⟨rfl, vs, SqL.of h1⟩
    · cases e
  · cases e
def mtL (rr : AVal → List AVal → TEA) (to : TEA) (tl : TLA) : TEA := fun s Q => to s fun x s1 => isLst s1 x = true ∧ tl s1 fun xs s2 => rr x xs s2 Q
theorem ea_mtL {id : String} {rr : AVal → List AVal → TEA} (slot : Slot "list" name id) (hty : typeOf (.builtin id) = pure (.type "method_descriptor")) (hm : MtA X B id rr) (ho : EA X B o to) (ha : EL X B (e :: es) tl) (bm : Bm X o name e es apos cpos := by exact ⟨rfl, rfl, rfl, rfl, rfl⟩) :
    EA X B (.Call (.Attribute o name apos) (e :: es) [] cpos) (mtL rr to tl) := ⟨fun ad F H s σ Q r t =>
  we_of (pe_bm PySem.F.plainAttrs_list slot hty (mt_any id) pe_we pa_wa bm.hbase bm.hfew bm.hline bm.hs bm.hplain) ((ho.run ad F H s σ _ r t).imp fun u H1 q => by
    obtain ⟨ad1, F1, x, s1, e1, k1, r1, hu, hl, q⟩ := q
    refine ⟨isLst_ok r1 hu hl, (ha.run ad1 F1 H1 s1 σ _ r1 q).imp fun us H2 q => ?_⟩
    obtain ⟨ad2, F2, xs, s2, e2, k2, r2, hus, hln, q⟩ := q
    exact rAnyM_imp (hm ad2 F2 H2 s2 σ x xs u us Q r2 (hu.mono e2 k2) hus q) fun w H' h => h.up (e1.trans e2) (k1.trans k2))⟩
def mtL0 (rr : AVal → List AVal → TEA) (to : TEA) : TEA := fun s Q => to s fun x s1 => isLst s1 x = true ∧ rr x [] s1 Q
theorem ea_mtL0 {id : String} {rr : AVal → List AVal → TEA} (slot : Slot "list" name id) (hty : typeOf (.builtin id) = pure (.type "method_descriptor")) (hm : MtA X B id rr) (ho : EA X B o to) (hbase : attributeBase o name X.env (eval o X.env) = eval o X.env := by rfl) (hline : (apos.endLine == cpos.line) = true := by rfl) :
    EA X B (.Call (.Attribute o name apos) [] [] cpos) (mtL0 rr to) := ⟨fun ad F H s σ Q r t =>
  we_of (pe_bm0 PySem.F.plainAttrs_list slot hty (mt_any id) pe_we hbase hline) ((ho.run ad F H s σ _ r t).imp fun u H1 q => by
    obtain ⟨ad1, F1, x, s1, e1, k1, r1, hu, hl, q⟩ := q
    exact ⟨isLst_ok r1 hu hl, rAnyM_imp (hm ad1 F1 H1 s1 σ x [] u [] Q r1 hu .nil q) fun w H' h => h.up e1 k1⟩)⟩
/-- the cell of a list of our own -/
def onLst (s : AS) (x : AVal) (k : Nat → List PyData → Prop) : Prop := match x with
  | .r n => match s.cs[n]? with
    | some (.lst ds) => k n ds
    | _ => False
  | _ => False
theorem onLst_ok {k : Nat → List PyData → Prop} (r : Rl B ad F H s σ) (hx : VOk ad F x u) (h : onLst s x k) : ∃ n ds p vs, s.cs[n]? = some (.lst ds) ∧ ad[n]? = some p ∧ u = .ref p ∧ H p = some (.lst vs) ∧ DaAll F ds vs ∧ k n ds := by
  unfold onLst at h
  split at h
  · rename_i n
    split at h
    · rename_i ds hc
      obtain ⟨p, h1, rfl⟩ := hx
      obtain ⟨_, _, vs, h2, h3⟩ := r.cel n p _ h1 hc
      exact ⟨n, ds, p, vs, hc, h1, rfl, h2, h3, h⟩
    · exact h.elim
  · exact h.elim
theorem Post.putL {Q : VQ} {d : PyData} {n : Nat} {ds es : List PyData} {q : Addr} {vs : List V} (r : Rl B ad F H s σ) (hc : s.cs[n]? = some (.lst ds)) (hp : ad[n]? = some q) (hd : DaAll F es vs) (hv : Da F d v) (k : Q (.d d) ⟨s.sl, s.cs.set n (.lst es)⟩) : Post B ad F σ Q v (upd H q (.lst vs)) :=
  .here (x := .d d) (r.put (c := .lst es) hp hc rfl ⟨vs, upd_same, hd⟩) hv k
def appendA (x : AVal) (xs : List AVal) : TEA := fun s Q => one (fun y => onLst s x fun n ds => onSome y.data? fun d => ds.length < sizeLine ∧ Q (.d .none) ⟨s.sl, s.cs.set n (.lst (ds ++ [d]))⟩) xs
theorem m_append : MtA X B "list.append" appendA := fun ad F H s σ x xs u us Q r hx hp t => by
  obtain ⟨y, w, rfl, rfl, hy, t⟩ := one_ok t hp
  obtain ⟨n, ds, p, vs, hc, h1, rfl, h2, h3, d, ed, hz, q⟩ := onLst_ok r hx t
  have := AVal.data?_of ed
  subst this
  exact ⟨_, mt_append, p, vs, w, rfl, rfl, h2, by rw [h3.length]; exact hz, .putL (d := .none) r hc h1 (h3.snoc hy) rfl q⟩
def extendA (x : AVal) (xs : List AVal) : TEA := fun s Q => one (fun y => onLst s x fun n ds => onSome (listOf s y) fun es => ds.length + es.length ≤ sizeLine ∧ Q (.d .none) ⟨s.sl, s.cs.set n (.lst (ds ++ es))⟩) xs
def removeA (x : AVal) (xs : List AVal) : TEA := fun s Q => one (fun y => onLst s x fun n ds => onSome (strs? ds) fun ss => onSome y.str? fun z => z ∈ ss ∧ Q (.d .none) ⟨s.sl, s.cs.set n (.lst ((ss.erase z).map .str))⟩) xs
def popA (x : AVal) (xs : List AVal) : TEA := fun s Q => onLst s x fun n ds => onSome ds.getLast? fun d => Q (.d d) ⟨s.sl, s.cs.set n (.lst ds.dropLast)⟩
theorem DaAll.dropLast {ds : List PyData} {vs : List V} (h : DaAll F ds vs) : DaAll F ds.dropLast vs.dropLast := by
  rw [List.dropLast_eq_take, List.dropLast_eq_take, h.length]
  exact h.take _
theorem m_pop : MtA X B "list.pop" (fun x xs s Q => xs = [] ∧ popA x xs s Q) := fun ad F H s σ x xs u us Q r hx hp t => by
  obtain ⟨rfl, t⟩ := t
  cases hp
  obtain ⟨n, ds, p, vs, hc, h1, rfl, h2, h3, d, ed, q⟩ := onLst_ok r hx t
  rw [List.getLast?_eq_getElem?] at ed
  obtain ⟨w, hw, hd⟩ := h3.get ed
  exact ⟨_, mt_pop, p, vs, w, rfl, rfl, h2, by rw [h3.length]; exact hw, .putL (d := d) r hc h1 h3.dropLast hd q⟩
def popAtA (x : AVal) (xs : List AVal) : TEA := fun s Q => one (fun y => onLst s x fun n ds => onSome y.int? fun i => (0 ≤ i ∧ i < 2 ^ 63) ∧ onSome (ds[i.toNat]?) fun d => Q (.d d) ⟨s.sl, s.cs.set n (.lst (ds.eraseIdx i.toNat))⟩) xs
theorem DaAll.eraseIdx : ∀ {ds : List PyData} {vs : List V} (k : Nat), DaAll F ds vs → DaAll F (ds.eraseIdx k) (vs.eraseIdx k)
  | [], _, k, h => by obtain rfl := (show _ = [] from h); exact h
  | d :: ds, _, 0, h => by
    obtain ⟨v, r, rfl, h1, h2⟩ := (show ∃ v r, _ = v :: r ∧ Da F d v ∧ DaAll F ds r from h)
    exact h2
  | d :: ds, _, k + 1, h => by
    obtain ⟨v, r, rfl, h1, h2⟩ := (show ∃ v r, _ = v :: r ∧ Da F d v ∧ DaAll F ds r from h)
    exact daAll_cons h1 (DaAll.eraseIdx k h2)
def clearA (x : AVal) (xs : List AVal) : TEA := fun s Q => onLst s x fun n ds => Q (.d .none) ⟨s.sl, s.cs.set n (.lst [])⟩
def countA (x : AVal) (xs : List AVal) : TEA := fun s Q => one (fun y => onSome (listOf s x) fun ds => onSome (strs? ds) fun ss => onSome y.str? fun z => Q (.d (.int (ss.count z : Nat))) s) xs
/-! ## dicts -/
def newD : TNA := fun s Q => Q (.dK []) s
theorem en_dict : EN X B (.Dict [] [] pos) newD := ⟨fun ad F H s σ Q r t => we_of pe_dnewK fun p hp => .here (c := .dK []) r hp ⟨[], upd_same, .nil⟩ rfl t⟩
def isDct (s : AS) (x : AVal) : Prop := match view s x with | .dct _ => True | _ => False
def getA2 (to te tf : TEA) : TEA := fun s Q => to s fun x s1 => isDct s1 x ∧ te s1 fun y s2 => tf s2 fun z s3 => match view s3 x with
  | .dct kvs => onSome y.key? fun k => Q ((getA kvs k).getD z) s3
  | _ => False
def onDct (s : AS) (x : AVal) (k : Nat → List (Key × PyData) → Prop) : Prop := match x with
  | .r n => match s.cs[n]? with
    | some (.dK ds) => k n ds
    | _ => False
  | _ => False
/-- d[k] = v -/
def putS (tv to ti : TEA) : TSA := fun D s => tv s fun v s1 => to s1 fun x s2 => ti s2 fun y s3 => onDct s3 x fun n ds => onSome y.key? fun k => onSome v.data? fun d => ds.length < sizeLine ∧ D.nx ⟨s3.sl, s3.cs.set n (.dK (putA ds k d))⟩
theorem Paired.length_eq {kvs : List (Key × PyData)} {es : List (Key × V)} (h : KvOk F kvs es) : kvs.length = es.length := Paired.len h
/-- d[k] -= e, d[k] += e of ints -/
def augS (g : Int → Int → Int) (to ti tv : TEA) : TSA := fun D s => to s fun x s1 => ti s1 fun y s2 => onSome y.key? fun k => onDct s2 x fun _ ds0 => onSome (getA ds0 k) fun d => onSome (AVal.d d).int? fun i => tv s2 fun v s3 => onSome v.int? fun j => onDct s3 x fun n ds => ds.length < sizeLine ∧ D.nx ⟨s3.sl, s3.cs.set n (.dK (putA ds k (.int (g i j))))⟩
/-! ## what is walked -/
variable {tg e2 : Expr}
theorem WE.sz {Q : VK} (h : WE X e σ H Q) : WE X e σ H fun v H' => Q v H' ∧ ∀ l vs, H' l = some (.lst vs) → vs.length ≤ sizeLine := fun pins s I => thn (h pins s I) fun u s' ⟨v, H', I', r, k⟩ => ⟨v, H', I', r, k, fun l vs hl => (I'.hok l _ hl).1⟩
theorem WA.sz {Q : List V → Hp → Prop} (h : WA X es σ H Q) : WA X es σ H fun v H' => Q v H' ∧ ∀ l vs, H' l = some (.lst vs) → vs.length ≤ sizeLine := fun pos pins s I => thn (h pos pins s I) fun u s' ⟨v, H', I', r, k⟩ => ⟨v, H', I', r, k, fun l vs hl => (I'.hok l _ hl).1⟩
/-- a list that is told for good -/
def fzList (s : AS) : AVal → Option (List PyData)
  | .d (.list ds) => some ds
  | .r n => match s.cs[n]? with
    | some (.fz (.list ds)) => some ds
    | _ => none
  | _ => none
theorem fzList_ok {ds : List PyData} (r : Rl B ad F H s σ) (h : VOk ad F x u) (e : fzList s x = some ds) : Da F (.list ds) u := by
  unfold fzList at e
  split at e
  · cases e; exact h
  · rename_i n
    obtain ⟨a, h1, rfl⟩ := h
    split at e
    · rename_i ds' hc; cases e; exact (r.cel n a _ h1 hc).2.2
    · cases e
  · cases e
def iterL (ta : TEA) : AS → (List PyData → AS → Prop) → Prop := fun s Q => ta s fun x s1 => onSome (fzList s1 x) fun ds => Q ds s1
theorem walks_list {F2 : Hp} {ds : List PyData} {l : Addr} {vs : List V} (h1 : F2 l = some (.lst vs)) (h2 : DaAll F2 ds vs) {K : PySem.W.Frag} : Walks (Itl K l) F2 ds := Walks0.w fun F3 H3 s1 s2 => ⟨fun i d e => by
  obtain ⟨v, hv, hd⟩ := h2.get e
  exact ⟨⟨vs, v, SqL.of (s2 _ _ (s1 _ _ h1)), hv⟩, fun x H4 y => ⟨y.1, (getV h2 e (y.2 vs (SqL.of (s2 _ _ (s1 _ _ h1))))).mono s1⟩⟩, vs, SqL.of (s2 _ _ (s1 _ _ h1)), by rw [h2.length]; exact Nat.le_refl _⟩
theorem ia_list (ha : EA X B e ta) : IA X B tg e (iterL ta) := ⟨fun ad F H s σ Q R r t k => wi_of (pi_list pe_we) ((WE.sz (ha.run ad F H s σ _ r t)).imp fun u H1 q => by
  obtain ⟨⟨ad1, F1, x, s1, e1, k1, r1, hx, ds, ed, q⟩, hz⟩ := q
  obtain ⟨l, vs, rfl, h1, h2⟩ := fzList_ok r1 hx ed
  have h1' := r1.fh _ _ h1
  exact ⟨l, rfl, ⟨vs, SqL.of h1'⟩, k _ ad1 F1 H1 s1 ds e1 k1 r1 (walks_list h1 h2) (by rw [← h2.length]; exact hz l vs h1') q⟩)⟩
/-- a list of our own, within a comprehension -/
def iterO (ta : TEA) : TIO := fun s Q => ta s fun x s1 => match x with
  | .r n => onSome s1.cs[n]? fun c => match c with
    | .lst ds => Q ds (fun cs => cs[n]? = some (.lst ds)) s1
    | .fz (.list ds) => Q ds (fun _ => True) s1
    | _ => False
  | .d (.list ds) => Q ds (fun _ => True) s1
  | .a p n pt => onSome (leafL (nodeAt s1 (.a p n pt))) fun ds => Q ds (fun cs => leafL (nodeAt ⟨[], cs⟩ (.a p n pt)) = some ds) s1
  | _ => False
def iterR1 (ta : TEA) : AS → (List PyData → AS → Prop) → Prop := fun s Q => ta s fun x s1 => onSome x.int? fun j => j ≤ 16777216 ∧ Q (intsD 0 j) s1
theorem ia_range1 (hm : X.mg "range" = none) (ha : EA X B e ta) (hg : Gl X "range" := by rfl) (l : Pl X e [] pos := by exact ⟨rfl, rfl⟩) : IA X B tg (.Call (.Name "range" p) [e] [] pos) (iterR1 (fun s Q => ta s fun x s1 => onSome x.int? fun j => -(2 ^ 62) ≤ j ∧ Q x s1)) := ⟨fun ad F H s σ Q R r t k =>
  wi_of (pi_range1 hg hm (pa_cons pe_we pa_nil l.he) (hs := l.he)) ((ha.run ad F H s σ _ r t).imp fun u H1 q => by
    obtain ⟨ad1, F1, x, s1, e1, k1, r1, hx, j0, ej0, hj0, j, ej, hj, q⟩ := q
    have := AVal.int?_of ej
    subst this
    obtain rfl : u = .int j := hx
    cases ej0
    refine ⟨j0, rfl, hj0, by omega, k _ ad1 F1 H1 s1 _ e1 k1 r1 (walks_rng 0 _ (by simp)).w ?_ q⟩
    rw [intsD_length]
    have : sizeLine = 16777216 := by decide
    omega)⟩
def iterR2 (ta tb : TEA) : AS → (List PyData → AS → Prop) → Prop := fun s Q => ta s fun x s1 => tb s1 fun y s2 => onSome x.int? fun i => onSome y.int? fun j => (-(2 ^ 62) ≤ i ∧ i < 2 ^ 62 ∧ -(2 ^ 62) ≤ j ∧ j < 2 ^ 62 ∧ j - i ≤ 16777216) ∧ Q (intsD i j) s2
def iterE (ta : TEA) : AS → (List PyData → AS → Prop) → Prop := fun s Q => ta s fun x s1 => onSome (fzList s1 x) fun ds => Q (enumsD ds) s1
end
end Kr
/-! layer A9 -/
namespace Kr
open PySem L2
theorem hu1 {k : Nat} {A : Around} (h : Room k A) : A.units + 1 < cLine := by have := h.units; omega
section
variable {X : Cx} {B : Bs} {ad : List Addr} {F H : Hp} {s : AS} {σ : St} {x y : AVal} {u v : V} {a b c e f o : Expr} {es : List Expr} {pos p p2 apos cpos : Pos} {ta tb tc : TEA} {tl : TLA} {name : Str}
/-! ## further rules -/
/-- a name whose cell is told for good from here on -/
def fzA (m k : Nat) : TEA := fun s Q => onSome (s.sl[k]?.bind id) fun x => match x with
  | .r n => onSome s.cs[n]? fun c => match c with
    | .fz d => Q (.d d) s
    | c => (m ≤ n ∧ c.live = true) ∧ onSome (frzC c) fun d => Q (.d d) ⟨s.sl, s.cs.set n (.fz d)⟩
  | x => Q x s
theorem ea_fz (k : Nat) {x : Str} (hN : X.N[k]? = some x := by rfl) (hv : Vis X.env.scope x := by first | exact Or.inl rfl | exact Or.inr (Or.inl rfl) | exact Or.inr (Or.inr rfl)) (hd : (x == ("__debug__" : Str)) = false := by decide)
    (hcd : (x == ("__classdict__" : Str)) = false := by decide) : EA X B (.Name x pos) (fzA B.S.length k) := ⟨fun ad F H s σ Q r t => by
  obtain ⟨y, e, q⟩ := t
  have e' : s.sl[k]? = some (some y) := by
    cases h : s.sl[k]? with
    | none => rw [h] at e; cases e
    | some o => rw [h] at e; cases o with
      | none => cases e
      | some z => cases e; rfl
  obtain ⟨v, h1, h2⟩ := r.slt k y e'
  refine we_of (pe_var hN hv hd hcd) ⟨v, h1, ?_⟩
  cases y with
  | d y => exact .here r h2 q
  | s _ _ => exact .here r h2 q
  | a _ _ _ => exact .here r h2 q
  | r n =>
    obtain ⟨c, hc, q⟩ := q
    obtain ⟨a, ha, rfl⟩ := h2
    obtain ⟨n0, l, ok⟩ := r.cel n a c ha hc
    have lv : (B.S.length ≤ n ∧ c.live = true) ∧ (onSome (frzC c) fun d => Q (.d d) ⟨s.sl, s.cs.set n (.fz d)⟩) → Post B ad F σ Q (.ref a) H := fun ⟨⟨hm, hl⟩, d, hd, q⟩ => by
      obtain ⟨o, ho, hda⟩ := ok.frz hl (l hl) hd
      exact ⟨ad, upd F a o, .d d, _, Ext.refl _, same_upd (l hl), r.freeze ha hc hl hm ho hda, hda, q⟩
    cases c with
    | fz d => exact .here (x := .d d) r ok q
    | lst _ => exact lv q
    | dK _ => exact lv q
    | pool _ => exact lv q
    | gone => exact lv q
    | nl _ => exact lv q
    | nt _ => exact lv q
    | nd _ => exact lv q
    | dl _ _ _ => exact lv q
    | tr _ => exact lv q⟩
def negA (ta : TEA) : TEA := fun s Q => ta s fun x s1 => onSome x.int? fun i => Q (.d (.int (-i))) s1
/-- a op b op c of ints -/
def chainT (g h : Int → Int → Bool) (ta tb tc : TEA) : TTA := fun s Q => ta s fun x s1 => tb s1 fun y s2 => onSome x.int? fun i => onSome y.int? fun j => if g i j = true then tc s2 fun z s3 => onSome z.int? fun k => Q (h j k) s3 else Q false s2
theorem chain_run {op op' : CmpOp} {g h : Int → Int → Bool} (ho : OpR X (compareOp op) (rI0 fun i j => .bl (g i j))) (ho' : OpR X (compareOp op') (rI0 fun i j => .bl (h i j))) (ha : EA X B a ta) (hb : EA X B b tb) (hc : EA X B c tc) {Q : Bool → AS → Prop} {K : VK} (r : Rl B ad F H s σ) (t : chainT g h ta tb tc s Q) (hK : ∀ bb H', PostT B ad F σ Q bb H' → K (.bl bb) H') :
    tChain (rI0 fun i j => .bl (g i j)) (rI0 fun i j => .bl (h i j)) (WE X a) (WE X b) (WE X c) σ H K := by
  refine we2 (R := fun u v H2 => (rI0 fun i j => .bl (g i j)) u v H2 fun z H3 => ∃ k, z = .bl k ∧ (if k = true then WE X c σ H3 fun w' H4 => (rI0 fun i j => .bl (h i j)) v w' H4 K else K (.bl false) H3)) (K := fun _ _ => True) ha hb r t fun ad2 F2 H2 s2 x y u v e k r2 hu hv ⟨i, ei, j, ej, q⟩ => ?_
  have e1 := AVal.int?_of ei
  have e2 := AVal.int?_of ej
  subst e1; subst e2
  refine ⟨i, j, hu, hv, g i j, rfl, ?_⟩
  dsimp only at q
  cases hg : g i j with
  | true =>
    rw [hg, if_pos rfl] at q
    refine iteT ((hc.run ad2 F2 H2 s2 σ _ r2 q).imp fun w H3 q => ?_)
    obtain ⟨ad3, F3, z, s3, e3, k3, r3, hz, l, el, q⟩ := q
    have := AVal.int?_of el
    subst this
    exact ⟨j, l, hv, hz, hK _ _ ⟨ad3, F3, s3, e.trans e3, k.trans k3, r3, q⟩⟩
  | false =>
    rw [hg] at q
    exact iteF (hK _ _ ⟨ad2, F2, s2, e, k, r2, q⟩)
theorem et_chain {op op' : CmpOp} {g h : Int → Int → Bool} (ho : OpR X (compareOp op) (rI0 fun i j => .bl (g i j))) (ho' : OpR X (compareOp op') (rI0 fun i j => .bl (h i j))) (ha : EA X B a ta) (hb : EA X B b tb) (hc : EA X B c tc) (hm : lastMarks [op, op'] [b, c] = false := by with_unfolding_all rfl) :
    ET X B (.Compare a [op, op'] [b, c] pos) (chainT g h ta tb tc) := ⟨fun ad F H s σ Q r t => wt_of (pt_chain ho ho' pe_we pe_we pe_we hm) (chain_run (K := fun w H' => ∃ k, w = .bl k ∧ PostT B ad F σ Q k H') ho ho' ha hb hc r t fun bb H' p => ⟨bb, rfl, p⟩)⟩
/-- texts joined -/
def joinA (to te : TEA) : TEA := fun s Q => to s fun x s1 => onSome x.str? fun z => te s1 fun y s2 => onSome (listOf s2 y) fun ds => onSome (strs? ds) fun ys => (ys.map (·.length)).sum + ys.length * z.length ≤ 16777216 ∧ Q (.d (.str (Txt.join z ys))) s2
theorem ea_join (ho : EA X B o ta) (he : EA X B e tb) (hs : starEach [e] X.env = [(false, eval e X.env)] := by rfl) (hbase : attributeBase o "join" X.env (eval o X.env) = eval o X.env := by rfl) (hline : (apos.endLine == pos.line) = true := by rfl) :
    EA X B (.Call (.Attribute o "join" apos) [e] [] pos) (joinA ta tb) := ⟨fun ad F H s σ Q r t =>
  we_of (pe_join pe_we pe_we hs hbase hline) ((ho.run ad F H s σ _ r t).imp fun v H1 q => by
    obtain ⟨ad1, F1, x, s1, e1, k1, r1, hv, z, ez, q⟩ := q
    have := AVal.str?_of ez
    subst this
    refine ⟨⟨z, hv⟩, (he.run ad1 F1 H1 s1 σ _ r1 q).imp fun w H2 q => ?_⟩
    obtain ⟨ad2, F2, y, s2, e2, k2, r2, hw, ds, ed, ys, ey, hz, q⟩ := q
    obtain ⟨l, vs, rfl, h1, h2⟩ := hw.list r2 ed
    have := strs?_of ey
    subst this
    obtain rfl := h2.strs
    exact ⟨z, l, ys, hv, rfl, .inl (SqL.of h1), hz, (Post.here (x := .d (.str (Txt.join z ys))) r2 rfl q).up (e1.trans e2) (k1.trans k2)⟩)⟩
/-! ## the script -/
def scrLen (K : PySem.W.Frag) (k : Nat) : TEA := fun s Q => onSome (s.sl[k]?.bind id) fun x => match x with
  | .s K' ns => K' = K ∧ Q (.d (.int ns.length)) s
  | _ => False
def scrAt (K : PySem.W.Frag) (k : Nat) (tb : TEA) : TEA := fun s Q => onSome (s.sl[k]?.bind id) fun x => match x with
  | .s K' ns => K' = K ∧ tb s fun y s1 => onSome y.int? fun i => onSome (L2.atI ns i) fun n => Q (.d (.int n)) s1
  | _ => False
theorem slot_get {k : Nat} (h : s.sl[k]?.bind id = some x) : s.sl[k]? = some (some x) := by
  cases e : s.sl[k]? with
  | none => rw [e] at h; cases h
  | some o => rw [e] at h; cases o with
    | none => cases h
    | some z => cases h; rfl
theorem ea_scrLen (k : Nat) {nm : Str} (hm : X.mg "len" = none) (hN : X.N[k]? = some nm := by rfl) (hv : Vis X.env.scope nm := by first | exact Or.inl rfl | exact Or.inr (Or.inl rfl) | exact Or.inr (Or.inr rfl)) (hd : (nm == ("__debug__" : Str)) = false := by decide) (hcd : (nm == ("__classdict__" : Str)) = false := by decide)
    (hg : Gl X "len" := by rfl) (pl : Pl X (.Name nm p2) [] pos := by exact ⟨rfl, rfl⟩) : EA X B (.Call (.Name "len" p) [.Name nm p2] [] pos) (scrLen X.K k) := ⟨fun ad F H s σ Q r t => by
  obtain ⟨y, e, q⟩ := t
  obtain ⟨v, h1, h2⟩ := r.slt k y (slot_get e)
  cases y with
  | d _ => exact q.elim
  | r _ => exact q.elim
  | a _ _ _ => exact q.elim
  | s K' ns =>
    obtain ⟨rfl, q⟩ := q
    obtain ⟨a, rfl, hq⟩ := h2
    exact we_of (pe_callB call_len hg hm PySem.boot_len (pa_cons (pe_var hN hv hd hcd) pa_nil pl.he) (by decide) (by decide) pl.he pl.hpl) ⟨_, h1, _, (ns.map V.int).length, rfl, .inl ⟨_, r.fh.seq hq, rfl⟩, .here (x := .d (.int ns.length)) r (by rw [List.length_map]; rfl) q⟩⟩
theorem ea_scrAt (k : Nat) {nm : Str} (hb : EA X B b tb) (hN : X.N[k]? = some nm := by rfl) (hv : Vis X.env.scope nm := by first | exact Or.inl rfl | exact Or.inr (Or.inl rfl) | exact Or.inr (Or.inr rfl)) (hd : (nm == ("__debug__" : Str)) = false := by decide) (hcd : (nm == ("__classdict__" : Str)) = false := by decide)
    (hs : PlainIx b := by exact fun _ _ => rfl) : EA X B (.Subscript (.Name nm p2) b pos) (scrAt X.K k tb) := ⟨fun ad F H s σ Q r t => by
  obtain ⟨y, e, q⟩ := t
  obtain ⟨v, h1, h2⟩ := r.slt k y (slot_get e)
  cases y with
  | d _ => exact q.elim
  | r _ => exact q.elim
  | a _ _ _ => exact q.elim
  | s K' ns =>
    obtain ⟨rfl, q⟩ := q
    obtain ⟨a, rfl, hq⟩ := h2
    refine we_of (pe_ix ix_list (pe_var hN hv hd hcd) pe_we hs) ⟨_, h1, (hb.run ad F H s σ _ r q).imp fun w H1 q => ?_⟩
    obtain ⟨ad1, F1, y, s1, e1, k1, r1, hw, i, ei, n, en, q⟩ := q
    have := AVal.int?_of ei
    subst this
    have hat : L2.atI (ns.map V.int) i = some (.int n) := by
      unfold L2.atI at en ⊢
      rw [List.length_map]
      cases hj : ixN ns.length i with
      | none => rw [hj] at en; cases en
      | some j =>
        rw [hj] at en
        have en' : ns[j]? = some n := en
        show (ns.map V.int)[j]? = _
        rw [List.getElem?_map, en']; rfl
    exact ⟨a, ns.map V.int, i, .int n, rfl, hw, r1.fh.seq (k1.seq hq), hat, (Post.here (x := .d (.int n)) r1 rfl q).up e1 k1⟩⟩
end
end Kr
namespace Kr
open PySem L2
def neverA : TSA := fun _ _ => False
theorem sa_never {X : Cx} {B : Bs} {st : Stmt} : SA X B st neverA := ⟨fun _ _ h => h.elim⟩
end Kr
/-! layer A10 -/
namespace Kr
open PySem L2
/-! ## plain rules -/
/-- one turn of a comprehension that leaves the cells: kept or not, and what is put -/
def lcStep (g : TGA) (tt : TTA) (te : TEA) (vs : List Nat) (sl : List (Option AVal)) (cs : List Cell) (x : PyData) (R1 : PyData → List Cell → Prop) (R2 : List Cell → Prop) : Prop :=
  g (.d x) ⟨wipeA sl vs, cs⟩ fun s1 => tt s1 fun b s2 => if b = true then te s2 fun y s3 => onSome y.data? fun d => R1 d s3.cs else R2 s2.cs
/-- the same over things told as data -/
theorem lcW_map {α : Type} {g : TGA} {tt : TTA} {te : TEA} {vs : List Nat} {ok : List Cell → Prop} {sl : List (Option AVal)} {cs : List Cell} {Q : List PyData → List Cell → Prop} (hok : ok cs) (D : α → PyData) (f : α → Bool) (h : α → PyData) : ∀ {xs : List α} {acc : List PyData},
    (∀ x ∈ xs, ∀ R1 R2, (f x = true → R1 (h x) cs) → (f x = false → R2 cs) → lcStep g tt te vs sl cs (D x) R1 R2) → Q (acc ++ (xs.filter f).map h) cs → lcW g tt te vs ok sl (xs.map D) acc cs Q
  | [], acc, _, q => by
    refine ⟨hok, ?_⟩
    simpa using q
  | x :: xs, acc, hs, q => by
    refine ⟨hok, hs x (List.mem_cons_self ..) (fun d cs' => lcW g tt te vs ok sl (xs.map D) (acc ++ [d]) cs' Q) (fun cs' => lcW g tt te vs ok sl (xs.map D) acc cs' Q) (fun hf => ?_) (fun hf => ?_)⟩
    · refine lcW_map hok D f h (fun y hy => hs y (List.mem_cons_of_mem _ hy)) ?_
      rw [List.filter_cons_of_pos hf] at q
      simpa using q
    · refine lcW_map hok D f h (fun y hy => hs y (List.mem_cons_of_mem _ hy)) ?_
      rw [List.filter_cons_of_neg (by simp [hf])] at q
      exact q
/-- a loop by a word of the turn and the state -/
theorem forW_map {α : Type} {m : Nat} {g : TGA} {t : TSA} {D : DA} (Dt : α → PyData) (xs : List α) (Iv : Nat → AS → Prop) {s : AS} (h0 : Iv 0 s)
    (hs : ∀ i x s' (N : AS → Prop), xs[i]? = some x → Iv i s' → (∀ s2 s3, Wk m s2 s3 → Iv (i + 1) s3 → N s2) → g (.d (Dt x)) s' fun s1 => t ⟨N, D.rt, D.nx, N⟩ s1)
    (hd : ∀ s', Iv xs.length s' → D.nx s') : forW m g t D (xs.map Dt) s := by
  have key : ∀ (n i : Nat) (s' : AS), xs.length = i + n → Iv i s' → forW m g t D ((xs.drop i).map Dt) s' := by
    intro n
    induction n with
    | zero =>
      intro i s' hl hi
      rw [List.drop_eq_nil_of_le (by omega)]
      have : i = xs.length := by omega
      subst this
      exact hd s' hi
    | succ n ih =>
      intro i s' hl hi
      have hlt : i < xs.length := by omega
      have e : xs[i]? = some xs[i] := List.getElem?_eq_getElem hlt
      rw [drop_get e]
      exact hs i _ s' _ e hi fun s2 s3 w h3 => ⟨s3, w, ih (i + 1) s3 (by omega) h3⟩
  exact key xs.length 0 s (by omega) h0
/-- where nothing is forgotten, or slots alone -/
theorem nodup1 {α : Type} {x : α} : [x].Nodup = True := by simp
theorem Wk0.refl {m : Nat} {s : AS} (hm : m ≤ s.cs.length) (hl : ∀ c ∈ s.cs, c.lt s.cs.length) (hs : ∀ (k : Nat) (x : AVal), s.sl[k]? = some (some x) → x.lt s.cs.length) : Wk0 m s s := ⟨rfl, fun k x h => ⟨h, hs k x h⟩, ⟨[], by simp⟩, hl, hm⟩
def ltO (n : Nat) : Option AVal → Prop
  | some x => x.lt n
  | none => True
def SubS (n : Nat) : List (Option AVal) → List (Option AVal) → Prop
  | [], [] => True
  | a :: as, b :: bs => (b = none ∨ (a = b ∧ ltO n b)) ∧ SubS n as bs
  | _, _ => False
theorem SubS.len {n : Nat} : ∀ {a b : List (Option AVal)}, SubS n a b → b.length = a.length
  | [], [], _ => rfl
  | _ :: _, _ :: _, h => by simp [SubS.len h.2]
  | [], _ :: _, h => h.elim
  | _ :: _, [], h => h.elim
theorem SubS.get {n : Nat} : ∀ {a b : List (Option AVal)} {k : Nat} {x : AVal}, SubS n a b → b[k]? = some (some x) → a[k]? = some (some x) ∧ x.lt n
  | [], [], k, x, _, h => by simp at h
  | u :: as, v :: bs, k, x, hs, h => by
    cases k with
    | zero =>
      have e : v = some x := by simpa using h
      subst e
      rcases hs.1 with h1 | ⟨h1, h2⟩
      · cases h1
      · exact ⟨by simp [h1], h2⟩
    | succ k =>
      have := SubS.get (k := k) hs.2 (by simpa using h)
      exact ⟨by simpa using this.1, this.2⟩
  | [], _ :: _, _, _, h, _ => h.elim
  | _ :: _, [], _, _, h, _ => h.elim
def Cell.low : Cell → Bool
  | .nl xs => xs.all AVal.nor
  | .nt _ => false
  | .nd _ => false
  | _ => true
theorem flat_lt {c : Cell} (h : c.low = true) (n : Nat) : c.lt n := by
  cases c with
  | nl xs =>
    intro x hx
    have := List.all_eq_true.mp h x hx
    cases x with
    | r _ => cases this
    | _ => trivial
  | nt _ => cases h
  | nd _ => cases h
  | _ => trivial
theorem wk_of {m : Nat} {sl sl' : List (Option AVal)} {cs cs' : List Cell} (more : List Cell) (hs : SubS cs'.length sl sl') (hc : cs = cs' ++ more) (hl : cs'.all Cell.low = true) (hm : m ≤ cs'.length) : Wk m ⟨sl, cs⟩ ⟨sl', cs'⟩ :=
  .inl ⟨hs.len, fun k x h => hs.get h, ⟨more, hc⟩, fun c hc => flat_lt (List.all_eq_true.mp hl c hc) _, hm⟩
/-- cells taken out in another order -/
def SubQ (m : Nat) (ns : List Nat) : List (Option AVal) → List (Option AVal) → Prop
  | [], [] => True
  | a :: as, b :: bs => (b = none ∨ ∃ y, a = some y ∧ b = some (partQ m ns y) ∧ hasR m ns y) ∧ SubQ m ns as bs
  | _, _ => False
theorem SubQ.len {m : Nat} {ns : List Nat} : ∀ {a b : List (Option AVal)}, SubQ m ns a b → b.length = a.length
  | [], [], _ => rfl
  | _ :: _, _ :: _, h => by simp [SubQ.len h.2]
  | [], _ :: _, h => h.elim
  | _ :: _, [], h => h.elim
theorem SubQ.get {m : Nat} {ns : List Nat} : ∀ {a b : List (Option AVal)} {k : Nat} {x : AVal}, SubQ m ns a b → b[k]? = some (some x) → ∃ y, a[k]? = some (some y) ∧ x = partQ m ns y ∧ hasR m ns y
  | [], [], k, x, _, h => by simp at h
  | u :: as, v :: bs, k, x, hs, h => by
    cases k with
    | zero =>
      have h : v = some x := by simpa using h
      subst h
      rcases hs.1 with e | ⟨y, e1, e2, e3⟩
      · cases e
      · cases e2; exact ⟨y, by simp [e1], rfl, e3⟩
    | succ k => simpa using SubQ.get hs.2 (by simpa using h)
  | [], _ :: _, _, _, h, _ => h.elim
  | _ :: _, [], _, _, h, _ => h.elim
theorem atI_natE {α : Type} (xs : List α) (n : Nat) : L2.atI xs (n : Int) = xs[n]? := by
  unfold L2.atI ixN
  rw [if_pos (by omega)]
  by_cases h : (n : Int) < xs.length
  · rw [if_pos h]; rfl
  · rw [if_neg h, List.getElem?_eq_none (by omega)]; rfl
theorem atI_0 {α : Type} (x : α) (xs : List α) : L2.atI (x :: xs) 0 = some x := atI_natE (x :: xs) 0
theorem atI_1 {α : Type} (x y : α) (xs : List α) : L2.atI (x :: y :: xs) 1 = some y := atI_natE (x :: y :: xs) 1
theorem atI_2 {α : Type} (x y z : α) (xs : List α) : L2.atI (x :: y :: z :: xs) 2 = some z := atI_natE (x :: y :: z :: xs) 2
theorem atI_map {α β : Type} (f : α → β) (xs : List α) (i : Int) : L2.atI (xs.map f) i = (L2.atI xs i).map f := by
  unfold L2.atI
  rw [List.length_map]
  cases ixN xs.length i with
  | none => rfl
  | some j => simp
/-- a loop whose state is a function of the turn -/
theorem forW_fun {α : Type} {m : Nat} {g : TGA} {t : TSA} {D : DA} (Dt : α → PyData) (xs : List α) (A : Nat → AS) {s : AS} (h0 : s = A 0)
    (hs : ∀ i x (N : AS → Prop), xs[i]? = some x → (∀ s2, Wk m s2 (A (i + 1)) → N s2) → g (.d (Dt x)) (A i) fun s1 => t ⟨N, D.rt, D.nx, N⟩ s1)
    (hd : D.nx (A xs.length)) : forW m g t D (xs.map Dt) s :=
  forW_map Dt xs (fun i s => s = A i) h0 (fun i x s' N hx e hN => by subst e; exact hs i x N hx fun s2 w => hN s2 _ w rfl) fun s' e => by subst e; exact hd
end Kr
/-! layer A11 -/
namespace Kr
open PySem L2
/-! ## promises of the older kind, as transformers -/
def tF (n : Nat) (pre : List PyData → Prop) (fn : List PyData → PyData) : SpT := fun xs cs P => cs = [] ∧ onSome (datas xs) fun ds => ds.length = n ∧ pre ds ∧ P (.f (fn ds)) []
section
variable {Pr : Program} {w : World} {K : PySem.W.Frag} {mg : Str → Option Value} {base : Heap} {k n c : Nat} {f : Addr} {fd : FuncData} {ps : List Str} {pre : List PyData → Prop} {fn : List PyData → PyData} {post : List PyData → PyData → Prop}
theorem inn0 {B : Bs} {ad : List Addr} {F H : Hp} {cs : List Cell} (h : cs.flatMap Cell.ads = []) (hT : B.T = []) : Inn B ad F H cs := ⟨by rw [h]; exact List.nodup_nil, fun q hq => (by rw [h] at hq; cases hq), fun q hq => (by rw [h] at hq; cases hq), fun q hq => (by rw [h] at hq; cases hq), fun b hb => (by rw [hT] at hb; cases hb)⟩
theorem okF_A (G : FnOk Pr w K mg base CX0 k f fd ps (spF n pre fn)) : FnOk Pr w K mg base CX0 k f fd ps (spA n (tF n pre fn)) := G.imp fun vs H Q E ⟨F, ad, cs, xs, P, hl, r, hp, ⟨hc, ds, hd, hn, hpre, hP⟩, q⟩ => by
  subst hc
  have hads : ad = [] := by
    have := r.len
    cases ad with
    | nil => rfl
    | cons _ _ => simp at this
  subst hads
  exact ⟨F, ds, hn, r.fh, datas_ok hp hd, hpre, fun v F2 H2 g hv => q v H2 (.inl ⟨F2, fn ds, [], r.gr g, (fun _ h => nomatch h), hv, hP⟩)⟩
end
end Kr
/-! layer A12 -/
namespace Kr
open PySem L2
/-! ## how transformers open, constructor by constructor -/
section
variable {s : AS} {Q : VQ} {x y : AVal} {ds es : List PyData} {i : Int} {z : Str} {n : Nat} {b : Bool} {P : RV → List Cell → Prop} {m : Nat} {d : PyData} {kvs : List (Key × AVal)} {xs : List AVal} {QT : Bool → AS → Prop} {K : PySem.W.Frag} {ns : List Int}
theorem retP_d : retP m P (.d d) s = ((s.cs.take m).all Cell.flat = true ∧ P (.f d) (s.cs.take m)) := rfl
def retC (m n : Nat) (P : RV → List Cell → Prop) (s : AS) : Cell → Prop
  | .fz y => P (.f y) (s.cs.take m)
  | .lst ds => P (.n (.lst ds)) (s.cs.take m)
  | .dK ds => P (.n (.dK ds)) (s.cs.take m)
  | .pool k => P (.n (.pool k)) (s.cs.take m)
  | .tr t => P (.t t) (s.cs.take m)
  | .nt xs => parts m s.cs P xs
  | .nl xs => xs.all AVal.nor = true ∧ P (.n (.nl xs)) (s.cs.take m)
  | _ => False
theorem retC_ok : ∀ {c : Cell}, retC m n P s c → (match c with | .fz y => P (.f y) (s.cs.take m) | .tr t => P (.t t) (s.cs.take m) | .nt xs => parts m s.cs P xs | c => c.live = true ∧ c.flat = true ∧ P (.n c) (s.cs.take m)) := by
  intro c h
  cases c with
  | fz y => exact h
  | lst _ => exact ⟨rfl, rfl, h⟩
  | dK _ => exact ⟨rfl, rfl, h⟩
  | pool _ => exact ⟨rfl, rfl, h⟩
  | gone => exact h.elim
  | nl _ => exact ⟨rfl, h.1, h.2⟩
  | nt _ => exact h
  | nd _ => exact h.elim
  | dl _ _ _ => exact h.elim
  | tr _ => exact h
theorem retC_of : ∀ {c : Cell}, (match c with | .fz y => P (.f y) (s.cs.take m) | .tr t => P (.t t) (s.cs.take m) | .nt xs => parts m s.cs P xs | c => c.live = true ∧ c.flat = true ∧ P (.n c) (s.cs.take m)) → retC m n P s c := by
  intro c h
  cases c with
  | fz y => exact h
  | lst _ => exact h.2.2
  | dK _ => exact h.2.2
  | pool _ => exact h.2.2
  | gone => exact Bool.noConfusion h.1
  | nl _ => exact ⟨h.2.1, h.2.2⟩
  | nt _ => exact h
  | nd _ => exact Bool.noConfusion h.2.1
  | dl _ _ _ => exact Bool.noConfusion h.2.1
  | tr _ => exact h
theorem retP_rE : retP m P (.r n) s = ((s.cs.take m).all Cell.flat = true ∧ if n < m then P (.p n) (s.cs.take m) else onSome s.cs[n]? (retC m n P s)) := by
  unfold retP
  refine congrArg _ ?_
  dsimp only
  split
  · rfl
  · exact propext ⟨fun ⟨c, hc, h⟩ => ⟨c, hc, retC_of h⟩, fun ⟨c, hc, h⟩ => ⟨c, hc, retC_ok h⟩⟩
theorem retC_nt {ys : List AVal} : retC m n P s (.nt ys) = parts m s.cs P ys := rfl
theorem retC_tr {t : Tr} : retC m n P s (.tr t) = P (.t t) (s.cs.take m) := rfl
theorem addA_int : addA (.d (.int i)) y s Q = onSome y.int? fun j => Q (.d (.int (i + j))) s := rfl
theorem addA_str : addA (.d (.str z)) y s Q = onSome y.str? fun q => z.length + q.length ≤ sizeLine ∧ Q (.d (.str (z ++ q))) s := rfl
theorem addA_lst : addA (.d (.list ds)) y s Q = onSome (listOf s y) fun es => ds.length + es.length ≤ sizeLine ∧ Q (.d (.list (ds ++ es))) s := by
  show onSome (some ds) _ = _; rw [onSome_some]
theorem addA_r : addA (.r n) y s Q = onSome (listOf s (.r n)) fun ds => onSome (listOf s y) fun es => ds.length + es.length ≤ sizeLine ∧ Q (.d (.list (ds ++ es))) s := rfl
theorem mulA_int : mulA (.d (.int i)) y s Q = onSome y.int? fun j => CMul i j ∧ Q (.d (.int (i * j))) s := rfl
theorem mulA_lst : mulA (.d (.list ds)) y s Q = onSome y.int? fun n => (-(2 ^ 63) ≤ n ∧ n < 2 ^ 63 ∧ ds.length * n.toNat ≤ sizeLine) ∧ Q (.d (.list (repL n ds))) s := by
  show onSome (some ds) _ = _; rw [onSome_some]
theorem mulA_r : mulA (.r n) y s Q = onSome (listOf s (.r n)) fun ds => onSome y.int? fun n => (-(2 ^ 63) ≤ n ∧ n < 2 ^ 63 ∧ ds.length * n.toNat ≤ sizeLine) ∧ Q (.d (.list (repL n ds))) s := rfl
theorem ltT_str : ltT (.d (.str z)) y s QT = onSome y.str? fun q => QT (decide (z.cps.toList < q.cps.toList)) s := rfl
theorem ltT_int : ltT (.d (.int i)) y s QT = onSome y.int? fun j => QT (decide (i < j)) s := by
  show onSome (some i) _ = _; rw [onSome_some]
def ixV (s : AS) (y : AVal) (Q : VQ) : View → Prop
  | .seq xs => onSome y.int? fun i => onSome (L2.atI xs i) fun z => Q z s
  | .dct kvs => onSome y.key? fun k => onSome (getA kvs k) fun z => Q z s
  | .txt z => onSome y.int? fun i => z.length ≤ sizeLine ∧ onSome (L2.atI z.cps.toList i) fun c => Q (.d (.str ⟨#[c]⟩)) s
  | .oth => False
theorem ixA_V : ixA x y s Q = ixV s y Q (view s x) := by unfold ixA ixV; cases view s x <;> rfl
def slV (lo hi : Option Int) (x : AVal) (s : AS) (Q : VQ) : View → Prop
  | .txt z => z.length ≤ sizeLine ∧ Q (.d (.str (cutS z lo hi))) s
  | .seq _ => onSome (listOf s x) fun ds => Q (.d (.list (cutD ds lo hi))) s
  | _ => onSome (listOf s x) fun ds => Q (.d (.list (cutD ds lo hi))) s
theorem slA_V {lo hi : Option Int} : slA lo hi x s Q = slV lo hi x s Q (view s x) := by unfold slA slV; cases view s x <;> rfl
def inV' (neg : Bool) (x y : AVal) (s : AS) (Q : Bool → AS → Prop) : View → Prop
  | .dct kvs => onSome x.key? fun k => Q ((getA kvs k).isSome != neg) s
  | .txt z => onSome x.str? fun w => onSome (w.cps.toList.head?) fun c => w = ⟨#[c]⟩ ∧ Q (decide (c ∈ z.cps.toList) != neg) s
  | .seq _ => onSome (listOf s y) fun ds => onSome x.data? fun d => (flatD d = true ∧ ds.all flatD = true) ∧ Q (inD d ds != neg) s
  | .oth => onSome (listOf s y) fun ds => onSome x.data? fun d => (flatD d = true ∧ ds.all flatD = true) ∧ Q (inD d ds != neg) s
theorem inT_V {neg : Bool} : inT neg x y s QT = inV' neg x y s QT (view s y) := by unfold inT inV'; cases view s y <;> rfl
def tup2V (g1 g2 : TGA) (s : AS) (Q : AS → Prop) : List AVal → Prop
  | [x1, x2] => g1 x1 s fun s1 => g2 x2 s1 Q
  | _ => False
theorem tup2G_V {g1 g2 : TGA} {Q : AS → Prop} : tup2G g1 g2 x s Q = onSome (tupOf s x) (tup2V g1 g2 s Q) := by
  unfold tup2G
  congr 1
def tup3V (g1 g2 g3 : TGA) (s : AS) (Q : AS → Prop) : List AVal → Prop
  | [x1, x2, x3] => g1 x1 s fun s1 => g2 x2 s1 fun s2 => g3 x3 s2 Q
  | _ => False
theorem tup3G_V {g1 g2 g3 : TGA} {Q : AS → Prop} : tup3G g1 g2 g3 x s Q = onSome (tupOf s x) (tup3V g1 g2 g3 s Q) := by
  unfold tup3G
  congr 1
def lenV (s : AS) (Q : VQ) : View → Prop
  | .seq ys => Q (.d (.int ys.length)) s
  | .dct kvs => Q (.d (.int kvs.length)) s
  | .txt z => z.length ≤ sizeLine ∧ Q (.d (.int z.length)) s
  | .oth => False
theorem lenA_V : lenA [x] s Q = lenV s Q (view s x) := by unfold lenA lenV; dsimp only [one]; try (cases view s x <;> rfl)
def sortV (x : AVal) (s : AS) (Q : Cell → AS → Prop) : View → Prop
  | .dct kvs => onSome (txtKeys kvs) fun ks => ks.length < 64 ∧ Q (.lst ((srt ks).map .str)) s
  | .seq _ => onSome (listOf s x) fun ds => onSome (srtD ds) fun es => Q (.lst es) s
  | .txt _ => onSome (listOf s x) fun ds => onSome (srtD ds) fun es => Q (.lst es) s
  | .oth => onSome (listOf s x) fun ds => onSome (srtD ds) fun es => Q (.lst es) s
theorem sortedN_V {QN : Cell → AS → Prop} : sortedN [x] s QN = sortV x s QN (view s x) := by unfold sortedN sortV; dsimp only [one]; cases view s x <;> rfl
def gotV (y z : AVal) (s : AS) (Q : VQ) : View → Prop
  | .dct kvs => onSome y.key? fun k => Q ((getA kvs k).getD z) s
  | _ => False
def isDctV : View → Prop
  | .dct _ => True
  | _ => False
theorem isDct_V : isDct s x = isDctV (view s x) := by unfold isDct isDctV; cases view s x <;> rfl
theorem getA2_V {to te tf : TEA} : getA2 to te tf s Q = to s fun x s1 => isDct s1 x ∧ te s1 fun y s2 => tf s2 fun z s3 => gotV y z s3 Q (view s3 x) := by
  rfl
def lstC (k : List PyData → Prop) : Cell → Prop
  | .lst ds => k ds
  | _ => False
theorem onLst_r {k : Nat → List PyData → Prop} : onLst s (.r n) k = onSome s.cs[n]? (lstC (k n)) := by
  show (match s.cs[n]? with | some (.lst ds) => k n ds | _ => False) = onSome s.cs[n]? (lstC (k n))
  generalize s.cs[n]? = o
  cases o with
  | none => exact propext ⟨fun h => h.elim, fun ⟨_, e, _⟩ => by cases e⟩
  | some c => rw [onSome_some]; cases c <;> rfl
def dctC (k : List (Key × PyData) → Prop) : Cell → Prop
  | .dK ds => k ds
  | _ => False
theorem onDct_r {k : Nat → List (Key × PyData) → Prop} : onDct s (.r n) k = onSome s.cs[n]? (dctC (k n)) := by
  show (match s.cs[n]? with | some (.dK ds) => k n ds | _ => False) = onSome s.cs[n]? (dctC (k n))
  generalize s.cs[n]? = o
  cases o with
  | none => exact propext ⟨fun h => h.elim, fun ⟨_, e, _⟩ => by cases e⟩
  | some c => rw [onSome_some]; cases c <;> rfl
theorem intA_int : intA [.d (.int i)] s Q = Q (.d (.int i)) s := rfl
theorem intA_bool : intA [.d (.bool b)] s Q = Q (.d (.int (if b then 1 else 0))) s := rfl
def fzC (m n : Nat) (s : AS) (Q : VQ) : Cell → Prop
  | .fz d => Q (.d d) s
  | .lst ds => m ≤ n ∧ Q (.d (.list ds)) ⟨s.sl, s.cs.set n (.fz (.list ds))⟩
  | .dK ds => m ≤ n ∧ Q (.d (dictD ds)) ⟨s.sl, s.cs.set n (.fz (dictD ds))⟩
  | _ => False
def fzV (m : Nat) (s : AS) (Q : VQ) : AVal → Prop
  | .r n => onSome s.cs[n]? (fzC m n s Q)
  | .d x => Q (.d x) s
  | .s K ns => Q (.s K ns) s
  | .a p n pt => Q (.a p n pt) s
theorem fzA_V {k : Nat} : fzA m k s Q = onSome (s.sl[k]?.bind id) (fzV m s Q) := by
  unfold fzA
  congr 1; funext x
  cases x with
  | d _ => rfl
  | s _ _ => rfl
  | a _ _ _ => rfl
  | r n =>
    show (onSome s.cs[n]? fun c => match c with | .fz d => Q (.d d) s | c => (m ≤ n ∧ c.live = true) ∧ onSome (frzC c) fun d => Q (.d d) ⟨s.sl, s.cs.set n (.fz d)⟩) = onSome s.cs[n]? (fzC m n s Q)
    congr 1; funext c
    cases c with
    | fz d => rfl
    | lst ds => exact propext ⟨fun ⟨h1, d, e, h2⟩ => by cases e; exact ⟨h1.1, h2⟩, fun ⟨h1, h2⟩ => ⟨⟨h1, rfl⟩, _, rfl, h2⟩⟩
    | dK ds => exact propext ⟨fun ⟨h1, d, e, h2⟩ => by cases e; exact ⟨h1.1, h2⟩, fun ⟨h1, h2⟩ => ⟨⟨h1, rfl⟩, _, rfl, h2⟩⟩
    | pool _ => exact propext ⟨(fun ⟨h1, d, e, h2⟩ => by cases e), (fun h => False.elim h)⟩
    | gone => exact propext ⟨(fun ⟨h1, d, e, h2⟩ => by cases e), (fun h => False.elim h)⟩
    | nl _ => exact propext ⟨(fun ⟨h1, d, e, h2⟩ => by cases e), (fun h => False.elim h)⟩
    | nt _ => exact propext ⟨(fun ⟨h1, d, e, h2⟩ => by cases e), (fun h => False.elim h)⟩
    | nd _ => exact propext ⟨(fun ⟨h1, d, e, h2⟩ => by cases e), (fun h => False.elim h)⟩
    | dl _ _ _ => exact propext ⟨(fun ⟨h1, d, e, h2⟩ => by cases e), (fun h => False.elim h)⟩
    | tr _ => exact propext ⟨(fun ⟨h1, d, e, h2⟩ => by cases e), (fun h => False.elim h)⟩
theorem resF_f : resF Q (.f d) s = Q (.d d) s := rfl
theorem resF_n {c : Cell} : resF Q (.n c) s = onSome (frzC c) fun d => Q (.d d) s := rfl
theorem resO_f {nn : List Nat} : resO nn Q (.f d) s = Q (.d d) s := rfl
theorem resO_n {c : Cell} {nn : List Nat} : resO nn Q (.n c) s = Q (.r s.cs.length) ⟨s.sl, s.cs ++ [c]⟩ := rfl
theorem resO_t {t : Tr} {nn : List Nat} : resO nn Q (.t t) s = Q (.r s.cs.length) ⟨s.sl, s.cs ++ [.tr t]⟩ := rfl
theorem resO_p {k : Nat} {nn : List Nat} : resO nn Q (.p k) s = onSome nn[k]? fun n => Q (.r n) s := rfl
theorem scrLen_V {k : Nat} {ns : List Int} (h : s.sl[k]? = some (some (.s K ns))) : scrLen K k s Q = Q (.d (.int ns.length)) s := by
  unfold scrLen; rw [h]; exact propext ⟨fun ⟨_, e, h⟩ => by cases e; exact h.2, fun h => ⟨_, rfl, rfl, h⟩⟩
def listC : Cell → Option (List PyData)
  | .lst ds => some ds
  | .fz (.list ds) => some ds
  | .tr (.nd .lst _ xs) => leafs xs
  | _ => none
theorem listOf_r : listOf s (.r n) = s.cs[n]?.bind listC := by
  show (match s.cs[n]? with | some (.lst ds) => some ds | some (.fz (.list ds)) => some ds | some (.tr (.nd .lst _ xs)) => leafs xs | _ => none) = s.cs[n]?.bind listC
  generalize s.cs[n]? = o
  cases o with
  | none => rfl
  | some c => cases c with
    | fz y => cases y <;> rfl
    | tr t => cases t with
      | d _ => rfl
      | nd k _ _ => cases k <;> rfl
    | _ => rfl
theorem listC_tr {a : Addr} {ts : List Tr} : listC (.tr (.nd .lst a ts)) = leafs ts := rfl
theorem listOf_a {p : Addr} {pt : List Nat} : listOf s (.a p n pt) = leafL (nodeAt s (.a p n pt)) := rfl
theorem leafL_l {a : Addr} {pt : List Nat} {ts : List Tr} : leafL (some (n, pt, .lst, a, ts)) = leafs ts := rfl
theorem listOf_d : listOf s (.d (.list ds)) = some ds := rfl
def fzListC : Cell → Option (List PyData)
  | .fz (.list ds) => some ds
  | _ => none
theorem fzList_r : fzList s (.r n) = s.cs[n]?.bind fzListC := by
  show (match s.cs[n]? with | some (.fz (.list ds)) => some ds | _ => none) = s.cs[n]?.bind fzListC
  generalize s.cs[n]? = o
  cases o with
  | none => rfl
  | some c => cases c with
    | fz y => cases y <;> rfl
    | _ => rfl
theorem fzList_d : fzList s (.d (.list ds)) = some ds := rfl
def isLstC : Cell → Bool
  | .lst _ => true
  | .nl _ => true
  | .fz (.list _) => true
  | .tr (.nd .lst _ _) => true
  | _ => false
theorem isLst_r : isLst s (.r n) = (s.cs[n]?.map isLstC).getD false := by
  show (match s.cs[n]? with | some (.lst _) => true | some (.nl _) => true | some (.fz (.list _)) => true | some (.tr (.nd .lst _ _)) => true | _ => false) = (s.cs[n]?.map isLstC).getD false
  generalize s.cs[n]? = o
  cases o with
  | none => rfl
  | some c => cases c with
    | fz y => cases y <;> rfl
    | tr t => cases t with
      | d _ => rfl
      | nd k _ _ => cases k <;> rfl
    | _ => rfl
theorem isLstC_tr {a : Addr} {ts : List Tr} : isLstC (.tr (.nd .lst a ts)) = true := rfl
theorem isLst_a {p : Addr} {pt : List Nat} : isLst s (.a p n pt) = match nodeK s (.a p n pt) with | some .lst => true | _ => false := rfl
theorem isLst_d : isLst s (.d (.list ds)) = true := rfl
theorem view_r : view s (.r n) = (s.cs[n]?.map (viewC n)).getD .oth := by
  show (match s.cs[n]? with | some c => viewC n c | none => .oth) = (s.cs[n]?.map (viewC n)).getD .oth
  generalize s.cs[n]? = o
  cases o with
  | none => rfl
  | some c => cases c with
    | _ => rfl
theorem view_d : view s (.d d) = viewD d := rfl
theorem viewD_list : viewD (.list ds) = .seq (ds.map .d) := rfl
theorem viewD_tuple : viewD (.tuple ds) = .seq (ds.map .d) := rfl
theorem viewD_str : viewD (.str z) = .txt z := rfl
theorem viewD_dictD {k : List (Key × PyData)} : viewD (dictD k) = .dct (dkv k) := view_dictD (s := ⟨[], []⟩)
def tyC : Cell → Option String
  | .lst _ => some "list"
  | .nl _ => some "list"
  | .nt _ => some "tuple"
  | .dK _ => some "dict"
  | .nd _ => some "dict"
  | .fz x => tyD x
  | .tr (.nd k _ _) => kdTy k
  | _ => none
theorem tyOf_r : tyOf s (.r n) = s.cs[n]?.bind tyC := by
  show (match s.cs[n]? with | some (.lst _) => some "list" | some (.nl _) => some "list" | some (.nt _) => some "tuple" | some (.dK _) => some "dict" | some (.nd _) => some "dict" | some (.fz x) => tyD x | some (.tr (.nd k _ _)) => kdTy k | _ => none) = s.cs[n]?.bind tyC
  generalize s.cs[n]? = o
  cases o with
  | none => rfl
  | some c => cases c with
    | tr t => cases t <;> rfl
    | _ => rfl
theorem tyC_tr {k : Kd} {a : Addr} {ts : List Tr} : tyC (.tr (.nd k a ts)) = kdTy k := rfl
theorem tyOf_a {p : Addr} {pt : List Nat} : tyOf s (.a p n pt) = (nodeK s (.a p n pt)).bind kdTy := rfl
theorem kdTy_lst : kdTy .lst = some "list" := rfl
theorem kdTy_tup : kdTy .tup = some "tuple" := rfl
theorem kdTy_dct {ks : List Key} : kdTy (.dct ks) = some "dict" := rfl
theorem tyOf_d : tyOf s (.d d) = tyD d := rfl
def tupC : Cell → Option (List AVal)
  | .nt xs => some xs
  | .nl xs => some xs
  | .lst ds => some (ds.map .d)
  | .fz (.tuple ds) => some (ds.map .d)
  | .fz (.list ds) => some (ds.map .d)
  | _ => none
theorem tupOf_r : tupOf s (.r n) = s.cs[n]?.bind tupC := by
  show (match s.cs[n]? with | some (.nt xs) => some xs | some (.nl xs) => some xs | some (.lst ds) => some (ds.map .d) | some (.fz (.tuple ds)) => some (ds.map .d) | some (.fz (.list ds)) => some (ds.map .d) | _ => none) = s.cs[n]?.bind tupC
  generalize s.cs[n]? = o
  cases o with
  | none => rfl
  | some c => cases c with
    | fz y => cases y <;> rfl
    | _ => rfl
theorem tupOf_d : tupOf s (.d (.tuple ds)) = some (ds.map .d) := rfl
theorem tupOf_dl : tupOf s (.d (.list ds)) = some (ds.map .d) := rfl
def iterOC (n : Nat) (s : AS) (Q : List PyData → (List Cell → Prop) → AS → Prop) : Cell → Prop
  | .lst ds => Q ds (fun cs => cs[n]? = some (.lst ds)) s
  | .fz (.list ds) => Q ds (fun _ => True) s
  | _ => False
def iterOV (s : AS) (Q : List PyData → (List Cell → Prop) → AS → Prop) : AVal → Prop
  | .r n => onSome s.cs[n]? (iterOC n s Q)
  | .d (.list ds) => Q ds (fun _ => True) s
  | .a p n pt => onSome (leafL (nodeAt s (.a p n pt))) fun ds => Q ds (fun cs => leafL (nodeAt ⟨[], cs⟩ (.a p n pt)) = some ds) s
  | _ => False
theorem iterO_V {ta : TEA} {QO : List PyData → (List Cell → Prop) → AS → Prop} : iterO ta s QO = ta s fun x s1 => iterOV s1 QO x := by
  rfl
theorem eqOk_int {j : Int} : eqOk (.int i) (.int j) = True := rfl
theorem eqOk_str {w : Str} : eqOk (.str z) (.str w) = True := rfl
theorem eqOk_bool {c : Bool} : eqOk (.bool b) (.bool c) = True := rfl
theorem eqv_int {j : Int} : PyData.eqv (.int i) (.int j) = decide (i = j) := by simp [PyData.eqv, Bool.beq_eq_decide_eq]
theorem eqv_str {w : Str} : PyData.eqv (.str z) (.str w) = decide (z = w) := by simp [PyData.eqv, Bool.beq_eq_decide_eq]
theorem eqv_bool {c : Bool} : PyData.eqv (.bool b) (.bool c) = decide (b = c) := by simp [PyData.eqv, Bool.beq_eq_decide_eq]
theorem scrLen_0 {sl : List (Option AVal)} {cs : List Cell} : scrLen K 0 ⟨some (.s K ns) :: sl, cs⟩ Q = Q (.d (.int ns.length)) ⟨some (.s K ns) :: sl, cs⟩ := scrLen_V rfl
theorem kb_ll : kitB "list" "list" = some true := by decide +kernel
theorem kb_ii : kitB "int" "int" = some true := by decide +kernel
theorem kb_ib : kitB "int" "bool" = some false := by decide +kernel
theorem kb_bb : kitB "bool" "bool" = some true := by decide +kernel
theorem kb_bi : kitB "bool" "int" = some true := by decide +kernel
theorem kb_ss : kitB "str" "str" = some true := by decide +kernel
theorem kb_tt : kitB "tuple" "tuple" = some true := by decide +kernel
theorem kb_dd : kitB "dict" "dict" = some true := by decide +kernel
theorem ixV_seq : ixV s y Q (.seq xs) = onSome y.int? fun i => onSome (L2.atI xs i) fun z => Q z s := rfl
theorem ixV_dct : ixV s y Q (.dct kvs) = onSome y.key? fun k => onSome (getA kvs k) fun z => Q z s := rfl
theorem ixV_txt : ixV s y Q (.txt z) = onSome y.int? fun i => z.length ≤ sizeLine ∧ onSome (L2.atI z.cps.toList i) fun c => Q (.d (.str ⟨#[c]⟩)) s := rfl
theorem slV_txt {lo hi : Option Int} : slV lo hi x s Q (.txt z) = (z.length ≤ sizeLine ∧ Q (.d (.str (cutS z lo hi))) s) := rfl
theorem slV_seq {lo hi : Option Int} : slV lo hi x s Q (.seq xs) = onSome (listOf s x) fun ds => Q (.d (.list (cutD ds lo hi))) s := rfl
theorem inV'_dct {neg : Bool} : inV' neg x y s QT (.dct kvs) = onSome x.key? fun k => QT ((getA kvs k).isSome != neg) s := rfl
theorem inV'_txt {neg : Bool} : inV' neg x y s QT (.txt z) = onSome x.str? fun w => onSome (w.cps.toList.head?) fun c => w = ⟨#[c]⟩ ∧ QT (decide (c ∈ z.cps.toList) != neg) s := rfl
theorem inV'_seq {neg : Bool} : inV' neg x y s QT (.seq xs) = onSome (listOf s y) fun ds => onSome x.data? fun d => (flatD d = true ∧ ds.all flatD = true) ∧ QT (inD d ds != neg) s := rfl
theorem tup2V_2 {g1 g2 : TGA} {QS : AS → Prop} : tup2V g1 g2 s QS [x, y] = g1 x s fun s1 => g2 y s1 QS := rfl
theorem tup3V_3 {g1 g2 g3 : TGA} {QS : AS → Prop} {w : AVal} : tup3V g1 g2 g3 s QS [x, y, w] = g1 x s fun s1 => g2 y s1 fun s2 => g3 w s2 QS := rfl
theorem lenV_seq : lenV s Q (.seq xs) = Q (.d (.int xs.length)) s := rfl
theorem lenV_dct : lenV s Q (.dct kvs) = Q (.d (.int kvs.length)) s := rfl
theorem lenV_txt : lenV s Q (.txt z) = (z.length ≤ sizeLine ∧ Q (.d (.int z.length)) s) := rfl
theorem sortV_dct {QN : Cell → AS → Prop} : sortV x s QN (.dct kvs) = onSome (txtKeys kvs) fun ks => ks.length < 64 ∧ QN (.lst ((srt ks).map .str)) s := rfl
theorem sortV_seq {QN : Cell → AS → Prop} : sortV x s QN (.seq xs) = onSome (listOf s x) fun ds => onSome (srtD ds) fun es => QN (.lst es) s := rfl
theorem gotV_dct {w : AVal} : gotV y w s Q (.dct kvs) = onSome y.key? fun k => Q ((getA kvs k).getD w) s := rfl
theorem isDctV_dct : isDctV (.dct kvs) = True := rfl
theorem lstC_lst {kk : List PyData → Prop} : lstC kk (.lst ds) = kk ds := rfl
theorem dctC_dK {kk : List (Key × PyData) → Prop} {kd : List (Key × PyData)} : dctC kk (.dK kd) = kk kd := rfl
theorem fzV_r : fzV m s Q (.r n) = onSome s.cs[n]? (fzC m n s Q) := rfl
theorem fzV_d : fzV m s Q (.d d) = Q (.d d) s := rfl
theorem fzC_fz : fzC m n s Q (.fz d) = Q (.d d) s := rfl
theorem fzC_lst : fzC m n s Q (.lst ds) = (m ≤ n ∧ Q (.d (.list ds)) ⟨s.sl, s.cs.set n (.fz (.list ds))⟩) := rfl
theorem fzC_dK {kd : List (Key × PyData)} : fzC m n s Q (.dK kd) = (m ≤ n ∧ Q (.d (dictD kd)) ⟨s.sl, s.cs.set n (.fz (dictD kd))⟩) := rfl
theorem listC_lst : listC (.lst ds) = some ds := rfl
theorem listC_fz : listC (.fz (.list ds)) = some ds := rfl
theorem fzListC_fz : fzListC (.fz (.list ds)) = some ds := rfl
theorem isLstC_lst : isLstC (.lst ds) = true := rfl
theorem isLstC_fz : isLstC (.fz (.list ds)) = true := rfl
theorem isLstC_nl : isLstC (.nl xs) = true := rfl
theorem viewC_lst : viewC n (.lst ds) = .seq (ds.map .d) := rfl
theorem viewC_nl : viewC n (.nl xs) = .seq xs := rfl
theorem viewC_nt : viewC n (.nt xs) = .seq xs := rfl
theorem viewC_dK {kd : List (Key × PyData)} : viewC n (.dK kd) = .dct (dkv kd) := rfl
theorem viewC_nd : viewC n (.nd kvs) = .dct kvs := rfl
theorem viewC_fz : viewC n (.fz d) = viewD d := rfl
theorem viewC_tr {k : Kd} {a : Addr} {ts : List Tr} : viewC n (.tr (.nd k a ts)) = viewT n [] k ts := rfl
theorem viewT_l {pt : List Nat} {ts : List Tr} : viewT n pt .lst ts = .seq (kids n pt ts) := rfl
theorem viewT_t {pt : List Nat} {ts : List Tr} : viewT n pt .tup ts = .seq (kids n pt ts) := rfl
theorem viewT_d {pt : List Nat} {ts : List Tr} {ks : List Key} : viewT n pt (.dct ks) ts = .dct (ks.zip (kids n pt ts)) := rfl
theorem view_a {p : Addr} {pt : List Nat} : view s (.a p n pt) = match nodeAt s (.a p n pt) with | some (m, pt', k, _, xs) => viewT m pt' k xs | none => .oth := rfl
theorem nodeAt_a {p : Addr} {pt : List Nat} : nodeAt s (.a p n pt) = match s.cs[n]? with | some (.tr t) => (match t.at pt with | some (.nd k q xs) => if q = p then some (n, pt, k, q, xs) else none | _ => none) | _ => none := rfl
theorem nodeAt_r : nodeAt s (.r n) = match s.cs[n]? with | some (.tr (.nd k q xs)) => some (n, [], k, q, xs) | _ => none := rfl
theorem cellD_lst : cellD (.lst ds) = some (.list ds) := rfl
theorem cellD_dK {kd : List (Key × PyData)} : cellD (.dK kd) = some (dictD kd) := rfl
theorem cellD_fz : cellD (.fz d) = some d := rfl
theorem cellD_tr {t : Tr} : cellD (.tr t) = t.data? := rfl
theorem pass_lst : Cell.pass (.lst ds) = true := rfl
theorem pass_dK {kd : List (Key × PyData)} : Cell.pass (.dK kd) = true := rfl
theorem pass_pool {j : Nat} : Cell.pass (.pool j) = true := rfl
theorem pass_fz : Cell.pass (.fz d) = true := rfl
theorem pass_tr {t : Tr} : Cell.pass (.tr t) = true := rfl
theorem flat_tr {t : Tr} : Cell.flat (.tr t) = true := rfl
theorem flat_gone : Cell.flat .gone = true := rfl
theorem ren_a {nn : List Nat} {p : Addr} {pt : List Nat} : ren nn (.a p n pt) = .a p (nn.idxOf n) pt := rfl
theorem addA_a {p : Addr} {pt : List Nat} : addA (.a p n pt) y s Q = onSome (listOf s (.a p n pt)) fun ds => onSome (listOf s y) fun es => ds.length + es.length ≤ sizeLine ∧ Q (.d (.list (ds ++ es))) s := rfl
theorem tyC_lst : tyC (.lst ds) = some "list" := rfl
theorem tyC_dK {kd : List (Key × PyData)} : tyC (.dK kd) = some "dict" := rfl
theorem tyC_fz : tyC (.fz d) = tyD d := rfl
theorem tupC_lst : tupC (.lst ds) = some (ds.map .d) := rfl
theorem tupC_fzl : tupC (.fz (.list ds)) = some (ds.map .d) := rfl
theorem tupC_nt : tupC (.nt xs) = some xs := rfl
theorem tupC_fz : tupC (.fz (.tuple ds)) = some (ds.map .d) := rfl
theorem iterOV_r {QO : List PyData → (List Cell → Prop) → AS → Prop} : iterOV s QO (.r n) = onSome s.cs[n]? (iterOC n s QO) := rfl
theorem iterOV_d {QO : List PyData → (List Cell → Prop) → AS → Prop} : iterOV s QO (.d (.list ds)) = QO ds (fun _ => True) s := rfl
theorem iterOV_a {p : Addr} {pt : List Nat} {QO : List PyData → (List Cell → Prop) → AS → Prop} : iterOV s QO (.a p n pt) = onSome (leafL (nodeAt s (.a p n pt))) fun ds => QO ds (fun cs => leafL (nodeAt ⟨[], cs⟩ (.a p n pt)) = some ds) s := rfl
theorem iterOC_lst {QO : List PyData → (List Cell → Prop) → AS → Prop} : iterOC n s QO (.lst ds) = QO ds (fun cs => cs[n]? = some (.lst ds)) s := rfl
theorem iterOC_fz {QO : List PyData → (List Cell → Prop) → AS → Prop} : iterOC n s QO (.fz (.list ds)) = QO ds (fun _ => True) s := rfl
theorem retC_fz : retC m n P s (.fz d) = P (.f d) (s.cs.take m) := rfl
theorem retC_lst : retC m n P s (.lst ds) = P (.n (.lst ds)) (s.cs.take m) := rfl
theorem retC_dK {kd : List (Key × PyData)} : retC m n P s (.dK kd) = P (.n (.dK kd)) (s.cs.take m) := rfl
theorem retC_pool {j : Nat} : retC m n P s (.pool j) = P (.n (.pool j)) (s.cs.take m) := rfl
theorem one_1 {k1 : AVal → Prop} : one k1 [x] = k1 x := rfl
theorem two_2 {k2 : AVal → AVal → Prop} : two k2 [x, y] = k2 x y := rfl
theorem ren_r {nn : List Nat} : ren nn (.r n) = .r (nn.idxOf n) := rfl
theorem ren_d {nn : List Nat} : ren nn (.d d) = .d d := rfl
theorem ren_s {nn : List Nat} : ren nn (.s K ns) = .s K ns := rfl
theorem frzC_lst : frzC (.lst ds) = some (.list ds) := rfl
theorem frzC_dK {kd : List (Key × PyData)} : frzC (.dK kd) = some (dictD kd) := rfl
theorem frzC_fz : frzC (.fz d) = some d := rfl
theorem dataOf_d : dataOf s (.d d) = some d := rfl
theorem dataOf_r : dataOf s (.r n) = (s.cs[n]?).bind cellD := rfl
theorem flat_lst : Cell.flat (.lst ds) = true := rfl
theorem flat_dK {kd : List (Key × PyData)} : Cell.flat (.dK kd) = true := rfl
theorem flat_pool {j : Nat} : Cell.flat (.pool j) = true := rfl
theorem flat_fz : Cell.flat (.fz d) = true := rfl
theorem key?_int : (AVal.d (.int i)).key? = some (.inl i) := rfl
theorem key?_str : (AVal.d (.str z)).key? = some (.inr z) := rfl
theorem tyN_list : tyD (.list ds) = some "list" := rfl
theorem tyN_int : tyD (.int i) = some "int" := rfl
theorem tyN_bool : tyD (.bool b) = some "bool" := rfl
theorem tyN_str : tyD (.str z) = some "str" := rfl
theorem tyN_tuple : tyD (.tuple ds) = some "tuple" := rfl
theorem tyN_dictD {kd : List (Key × PyData)} : tyD (dictD kd) = some "dict" := by unfold tyD; rw [if_pos (noEx_dictD _)]; rfl
theorem tyN_none : tyD .none = some "NoneType" := rfl
theorem flatD_int : flatD (.int i) = true := rfl
theorem flatD_str : flatD (.str z) = true := rfl
theorem flatD_strs (zs : List Str) : (zs.map PyData.str).all flatD = true := by rw [List.all_map, List.all_eq_true]; intro _ _; rfl
theorem flatD_ints (is : List Int) : (is.map PyData.int).all flatD = true := by rw [List.all_map, List.all_eq_true]; intro _ _; rfl
theorem flatD_nats (is : List Nat) : (is.map fun k : Nat => PyData.int (k : Int)).all flatD = true := by rw [List.all_map, List.all_eq_true]; intro _ _; rfl
theorem inD_str (z : Str) (zs : List Str) : inD (.str z) (zs.map .str) = decide (z ∈ zs) := by
  induction zs with
  | nil => rfl
  | cons y ys ih =>
    unfold inD at ih ⊢
    rw [List.map_cons, List.any_cons, ih]
    show ((y == z) || _) = _
    by_cases h : y = z
    · subst h; simp
    · have h' : z ≠ y := fun e => h e.symm
      simp [h, h']
theorem inD_int (z : Int) (zs : List Int) : inD (.int z) (zs.map .int) = decide (z ∈ zs) := by
  induction zs with
  | nil => rfl
  | cons y ys ih =>
    unfold inD at ih ⊢
    rw [List.map_cons, List.any_cons, ih]
    show ((y == z) || _) = _
    by_cases h : y = z
    · subst h; simp
    · have h' : z ≠ y := fun e => h e.symm
      simp [h, h']
theorem inD_nat (z : Nat) (zs : List Nat) : inD (.int (z : Int)) (zs.map fun k : Nat => .int (k : Int)) = decide (z ∈ zs) := by
  have := inD_int (z : Int) (zs.map fun k : Nat => (k : Int))
  rw [List.map_map] at this
  refine this.trans (decide_eq_decide.mpr ?_)
  rw [List.mem_map]
  exact ⟨fun ⟨j, hj, e⟩ => by have : j = z := by omega
                              subst this; exact hj, fun hk => ⟨z, hk, rfl⟩⟩
end
end Kr
/-! layer A13 -/
namespace Kr
open PySem L2
/-! ## a dict that is walked: it is locked meanwhile -/
section
variable {F G H : Hp} {d b : Addr} {o o1 : HO} {es : List (Key × V)}
def IsDk (es : List (Key × V)) (o : HO) : Prop := o = .dK es ∨ ∃ od, o = .frz od (.dK es)
theorem Rd.ne (h : Rd F d (.dK es)) : F d ≠ none := by
  rcases h with h | ⟨_, h⟩ <;> exact ne_none h
theorem Rd.inj {es2 : List (Key × V)} (h : Rd F d (.dK es)) (k : Rd F d (.dK es2)) : es2 = es := by
  rcases h with h | ⟨_, h⟩ <;> rcases k with k | ⟨_, k⟩ <;> rw [h] at k <;> cases k <;> rfl
end
end Kr
/-! layer A14 -/
namespace Kr
open PySem L2
/-! ## for x in a dict -/
def okG (ok : AS → Prop) (g : TGA) : TGA := fun x s Q => ok s ∧ g x s Q
def keysOf : PyData → Option (List PyData)
  | .dict kvs => if noExK kvs = true then some (kvs.map (·.1)) else none
  | _ => none
section
variable {X : Cx} {B : Bs} {tg iter : Expr} {body : List Stmt} {t : TSA} {g : TGA} {ks : List Nat} {pos : Pos}
def DA.unl (D : DA) (n : Nat) (c0 c : Cell) : DA := ⟨fun s => s.cs[n]? = some c0 ∧ D.nx ⟨s.sl, s.cs.set n c⟩, fun x s => s.cs[n]? = some c0 ∧ D.rt x ⟨s.sl, s.cs.set n c⟩, fun s => s.cs[n]? = some c0 ∧ D.bk ⟨s.sl, s.cs.set n c⟩, fun s => s.cs[n]? = some c0 ∧ D.ct ⟨s.sl, s.cs.set n c⟩⟩
def forDC (m n : Nat) (g : TGA) (t : TSA) (D : DA) (s : AS) : Cell → Prop
  | .dK kvs => n < m ∧ ∀ od es, forW m (okG (fun s => s.cs[n]? = some (.dl od es kvs)) g) t (D.unl n (.dl od es kvs) (.dK kvs)) (kvs.map fun p => keyD p.1) ⟨s.sl, s.cs.set n (.dl od es kvs)⟩
  | .fz y => onSome (keysOf y) fun ds => forW m (okG (fun _ => True) g) t D ds s
  | _ => False
def forDV (m : Nat) (g : TGA) (t : TSA) (D : DA) (s : AS) : AVal → Prop
  | .d y => onSome (keysOf y) fun ds => forW m (okG (fun _ => True) g) t D ds s
  | .r n => onSome s.cs[n]? (forDC m n g t D s)
  | .s _ _ => False
  | .a _ _ _ => False
def forDA (m k : Nat) (g : TGA) (t : TSA) : TSA := fun D s => onSome (s.sl[k]?.bind id) (forDV m g t D s)
end
end Kr
/-! layer A15 -/
namespace Kr
open PySem L2
/-! ## dicts: ==, !=, dict(pairs), clear -/
def dctD : PyData → Option (List (Key × PyData))
  | .dict kvs => unKV kvs
  | _ => none
def dkC : Cell → Option (List (Key × PyData))
  | .dK kvs => some kvs
  | .fz y => dctD y
  | .dl _ _ kvs => some kvs
  | _ => none
def dctOf (s : AS) : AVal → Option (List (Key × PyData))
  | .d y => dctD y
  | .r n => s.cs[n]?.bind dkC
  | .s _ _ => none
  | .a _ _ _ => none
theorem dctD_dictD {kvs : List (Key × PyData)} : dctD (dictD kvs) = some kvs := unKV_keyD kvs
def eqvKV (ks ls : List (Key × PyData)) : Bool := ks.length == ls.length && ks.all fun p => match getA ls p.1 with | some e => PyData.eqv p.2 e | none => false
section
variable {X : Cx} {B : Bs} {ad : List Addr} {F H : Hp} {s : AS} {σ : St} {x y : AVal} {u v : V}
theorem KvOk.get {kvs : List (Key × PyData)} {es : List (Key × V)} {k : Key} (h : KvOk F kvs es) : match getA kvs k with | some x => ∃ v, valV es k = some v ∧ Da F x v | none => valV es k = none := by
  unfold KvOk at h
  induction h with
  | nil => rfl
  | @cons p q ps qs h t ih =>
    by_cases hk : p.1 = k
    · have : getA (p :: ps) k = some p.2 := by simp [getA, List.find?_cons, hk]
      rw [this]
      exact ⟨q.2, valV_pos (h.1.symm.trans hk), h.2⟩
    · have e1 : getA (p :: ps) k = getA ps k := by simp [getA, List.find?_cons, hk]
      have e2 : valV (q :: qs) k = valV qs k := valV_neg (by rw [← h.1]; exact hk)
      rw [e1, e2]
      exact ih
def eqDT (neg : Bool) : AVal → AVal → TTA := fun x y s Q => onSome (dctOf s x) fun ks => onSome (dctOf s y) fun ls => ((∀ p ∈ ks, Lay 60 p.2) ∧ ∀ p ∈ ls, Lay 60 p.2) ∧ Q (eqvKV ks ls != neg) s
/-! ### dict of a list of pairs -/
def pairD : PyData → Option (Key × PyData)
  | .tuple [k, d] => (keyOf k).map fun k => (k, d)
  | _ => none
def pairsD : List PyData → Option (List (Key × PyData))
  | [] => some []
  | p :: r => (pairD p).bind fun q => (pairsD r).map (q :: ·)
def mergeA {α : Type} (kvs more : List (Key × α)) : List (Key × α) := more.foldl (fun acc kv => putA acc kv.1 kv.2) kvs
def dictN (xs : List AVal) : TNA := fun s Q => one (fun x => onSome (listOf s x) fun ds => onSome (pairsD ds) fun kvs => Q (.dK (mergeA [] kvs)) s) xs
/-- d.clear() -/
def clearD (to : TEA) : TEA := fun s Q => to s fun x s1 => onDct s1 x fun n ds => Q (.d .none) ⟨s1.sl, s1.cs.set n (.dK [])⟩
/-! ### a tuple that is walked -/
def tupL (s : AS) : AVal → Option (List PyData)
  | .d (.tuple ds) => some ds
  | _ => none
def iterT (ta : TEA) : AS → (List PyData → AS → Prop) → Prop := fun s Q => ta s fun x s1 => onSome (tupL s1 x) fun ds => Q ds s1
/-! ### how they open -/
variable {m n : Nat} {g : TGA} {t : TSA} {D : DA} {kvs : List (Key × PyData)} {ds : List PyData} {od : Obj} {es : List (Key × V)}
theorem tupL_tup : tupL s (.d (.tuple ds)) = some ds := rfl
theorem dctOf_d {d : PyData} : dctOf s (.d d) = dctD d := rfl
theorem dctOf_r : dctOf s (.r n) = s.cs[n]?.bind dkC := rfl
theorem dkC_dK : dkC (.dK kvs) = some kvs := rfl
theorem dkC_dl : dkC (.dl od es kvs) = some kvs := rfl
theorem dkC_fz {d : PyData} : dkC (.fz d) = dctD d := rfl
theorem keysOf_dictD : keysOf (dictD kvs) = some (kvs.map fun p => keyD p.1) := by
  show (if noExK (kvs.map fun p => (keyD p.1, p.2)) = true then some ((kvs.map fun p => (keyD p.1, p.2)).map (·.1)) else none) = _
  rw [if_pos (show noExK (kvs.map fun p => (keyD p.1, p.2)) = true from noEx_dictD kvs), List.map_map]
  rfl
theorem forDV_d {d : PyData} : forDV m g t D s (.d d) = onSome (keysOf d) fun ds => forW m (okG (fun _ => True) g) t D ds s := rfl
theorem forDV_r : forDV m g t D s (.r n) = onSome s.cs[n]? (forDC m n g t D s) := rfl
theorem forDC_dK : forDC m n g t D s (.dK kvs) = (n < m ∧ ∀ od es, forW m (okG (fun s => s.cs[n]? = some (.dl od es kvs)) g) t (D.unl n (.dl od es kvs) (.dK kvs)) (kvs.map fun p => keyD p.1) ⟨s.sl, s.cs.set n (.dl od es kvs)⟩) := rfl
theorem viewC_dl : viewC n (.dl od es kvs) = .dct (dkv kvs) := rfl
end
end Kr
/-! layer A16 -/
namespace Kr
open PySem L2
/-! ## [.. for x in a dict ..] -/
section
variable {X : Cx} {B : Bs} {ad : List Addr} {F H : Hp} {s : AS} {σ : St} {a : Addr} {es : List (Key × V)} {od : Obj}
def keysV : AVal → Option (List PyData)
  | .d d => keysOf d
  | _ => none
def iterD (k : Nat) : TIO := fun s Q => onSome (s.sl[k]?.bind id) fun y => onSome (keysV y) fun ds => Q ds (fun _ => True) s
end
section
variable {X : Cx} {B : Bs} {elt tg c : Expr} {scope : Scope} {pos spos py p1 : Pos} {y x : Str} {g : TGA} {tt : TTA} {te : TEA} {ks : List Nat}
theorem keysV_d {d : PyData} : keysV (.d d) = keysOf d := rfl
end
end Kr
/-! layer A17 -/
namespace Kr
open PySem L2
/-! ## a list handed in is walked, told for good or a cell that stands still -/
abbrev TIH := AS → (List PyData → (AS → Prop) → AS → Prop) → Prop
def DA.okN (D : DA) (ok : AS → Prop) : DA := { D with nx := fun s => ok s ∧ D.nx s }
def forHA (m : Nat) (ti : TIH) (g : TGA) (t : TSA) : TSA := fun D s => ti s fun ds ok s1 => forW m (okG ok g) t (D.okN ok) ds s1
section
variable {X : Cx} {B : Bs} {tg iter : Expr} {body : List Stmt} {t : TSA} {g : TGA} {ks : List Nat} {pos : Pos} {ti : TIH}
/-- the list a slot holds -/
def ihC (m n : Nat) (f : List PyData → List PyData) (s : AS) (Q : List PyData → (AS → Prop) → AS → Prop) : Cell → Prop
  | .lst ds => n < m ∧ Q (f ds) (fun s => s.cs[n]? = some (.lst ds)) s
  | .fz (.list ds) => Q (f ds) (fun _ => True) s
  | _ => False
def ihV (m : Nat) (f : List PyData → List PyData) (s : AS) (Q : List PyData → (AS → Prop) → AS → Prop) : AVal → Prop
  | .d (.list ds) => Q (f ds) (fun _ => True) s
  | .r n => onSome s.cs[n]? (ihC m n f s Q)
  | _ => False
def iterH (m : Nat) (f : List PyData → List PyData) (ta : TEA) : TIH := fun s Q => ta s fun x s1 => ihV m f s1 Q x
variable {e : Expr} {ta : TEA} {p : Pos}
variable {m n : Nat} {f : List PyData → List PyData} {s : AS} {Q : List PyData → (AS → Prop) → AS → Prop} {ds : List PyData}
theorem ihV_d : ihV m f s Q (.d (.list ds)) = Q (f ds) (fun _ => True) s := rfl
theorem ihV_r : ihV m f s Q (.r n) = onSome s.cs[n]? (ihC m n f s Q) := rfl
theorem ihC_lst : ihC m n f s Q (.lst ds) = (n < m ∧ Q (f ds) (fun s => s.cs[n]? = some (.lst ds)) s) := rfl
theorem ihC_fz : ihC m n f s Q (.fz (.list ds)) = Q (f ds) (fun _ => True) s := rfl
end
end Kr
/-! layer A18 -/
namespace Kr
open PySem L2
/-! ## trees that change -/
def Tr.put (t : Tr) : List Nat → Tr → Tr
  | [], u => u
  | i :: p, u => match t.at p with
    | some (.nd k a xs) => t.put p (.nd k a (xs.set i u))
    | _ => t
theorem cnt_nd {k : Kd} {a : Addr} {xs : List Tr} (q : Addr) : (Tr.nd k a xs).addrs.count q = (if a = q then 1 else 0) + k.more.count q + (Tr.addrsL xs).count q := by
  show (a :: (k.more ++ Tr.addrsL xs)).count q = _
  rw [List.count_cons, List.count_append]
  simp only [beq_iff_eq]
  omega
theorem cntL_cons {t : Tr} {ts : List Tr} (q : Addr) : (Tr.addrsL (t :: ts)).count q = t.addrs.count q + (Tr.addrsL ts).count q := by
  show (t.addrs ++ Tr.addrsL ts).count q = _
  rw [List.count_append]
theorem cntL_nil (q : Addr) : (Tr.addrsL []).count q = 0 := rfl
theorem cntL_get {ts : List Tr} {i : Nat} {t : Tr} (h : ts[i]? = some t) (q : Addr) : t.addrs.count q ≤ (Tr.addrsL ts).count q := by
  induction ts generalizing i with
  | nil => simp at h
  | cons u ts ih =>
    rw [cntL_cons]
    cases i with
    | zero => simp at h; subst h; omega
    | succ i => have := ih (i := i) (by simpa using h); omega
theorem cntL_set {ts : List Tr} {i : Nat} {t u : Tr} (h : ts[i]? = some t) (q : Addr) : (Tr.addrsL (ts.set i u)).count q + t.addrs.count q = (Tr.addrsL ts).count q + u.addrs.count q := by
  induction ts generalizing i with
  | nil => simp at h
  | cons w ts ih =>
    cases i with
    | zero => simp at h; subst h; rw [List.set_cons_zero, cntL_cons, cntL_cons]; omega
    | succ i => rw [List.set_cons_succ, cntL_cons, cntL_cons]; have := ih (i := i) (by simpa using h); omega
theorem cntT_at {t : Tr} : ∀ {pt : List Nat} {u : Tr}, t.at pt = some u → ∀ q, u.addrs.count q ≤ t.addrs.count q
  | [], u, e, q => by cases e; exact Nat.le_refl _
  | i :: p, u, e, q => by
    unfold Tr.at at e
    split at e
    · rename_i k a xs hp
      have h1 := cntT_at hp q
      have h2 := cntL_get e q
      rw [cnt_nd] at h1
      omega
    · cases e
theorem cnt_put {t : Tr} : ∀ {pt : List Nat} {u0 u : Tr}, t.at pt = some u0 → ∀ q, (t.put pt u).addrs.count q + u0.addrs.count q = t.addrs.count q + u.addrs.count q
  | [], u0, u, e, q => by cases e; show u.addrs.count q + _ = _; omega
  | i :: p, u0, u, e, q => by
    unfold Tr.at at e
    unfold Tr.put
    split at e
    · rename_i k a xs hp
      try rw [hp]
      have h1 := cnt_put (u := .nd k a (xs.set i u)) hp q
      have h2 := cntL_set (u := u) e q
      rw [cnt_nd, cnt_nd] at h1
      try dsimp only
      omega
    · cases e
theorem root_put {t : Tr} : ∀ {pt : List Nat} {u0 u : Tr}, t.at pt = some u0 → u.root = u0.root → (t.put pt u).root = t.root
  | [], u0, u, e, h => by cases e; exact h
  | i :: p, u0, u, e, h => by
    unfold Tr.at at e
    unfold Tr.put
    split at e
    · rename_i k a xs hp
      try rw [hp]
      exact root_put hp rfl
    · cases e
theorem TrAll.set {F H : Hp} {ts : List Tr} {vs : List V} {i : Nat} {u : Tr} {w : V} (h : TrAll F H ts vs) (hw : vs[i]? = some w) (hu : TrOk F H u w) : TrAll F H (ts.set i u) vs := by
  induction ts generalizing vs i with
  | nil => simpa using h
  | cons t ts ih =>
    obtain ⟨v, r, rfl, h1, h2⟩ := (show ∃ v r, vs = v :: r ∧ TrOk F H t v ∧ TrAll F H ts r from h)
    cases i with
    | zero => simp at hw; subst hw; exact ⟨v, r, rfl, hu, h2⟩
    | succ i => exact ⟨v, r, rfl, h1, ih h2 (by simpa using hw)⟩
theorem TrAll.monoBut {F H H2 : Hp} {ts : List Tr} {vs : List V} {i : Nat} {u : Tr} (h : TrAll F H ts vs) (e : ∀ (j : Nat) (t : Tr), j ≠ i → ts[j]? = some t → ∀ q ∈ t.addrs, ∀ o, H q = some o → H2 q = some o) {w : V} (hw : vs[i]? = some w) (hu : TrOk F H2 u w) : TrAll F H2 (ts.set i u) vs := by
  induction ts generalizing vs i with
  | nil => obtain rfl := (show vs = [] from h); simp at hw
  | cons t ts ih =>
    obtain ⟨v, r, rfl, h1, h2⟩ := (show ∃ v r, vs = v :: r ∧ TrOk F H t v ∧ TrAll F H ts r from h)
    cases i with
    | zero =>
      simp at hw; subst hw
      refine ⟨v, r, rfl, hu, h2.mono (Same.refl _) fun q hq o ho => ?_⟩
      have key : ∀ (us : List Tr) (q : Addr), q ∈ Tr.addrsL us → ∃ (j : Nat) (t : Tr), us[j]? = some t ∧ q ∈ t.addrs := by
        intro us q hq
        induction us with
        | nil => cases hq
        | cons t us ih =>
          rcases List.mem_append.mp (show q ∈ t.addrs ++ Tr.addrsL us from hq) with h | h
          · exact ⟨0, t, rfl, h⟩
          · obtain ⟨j, u, h1, h2⟩ := ih h
            exact ⟨j + 1, u, by simpa using h1, h2⟩
      obtain ⟨j, t', hj, hq'⟩ := key ts q hq
      exact e (j + 1) t' (by omega) (by simpa using hj) q hq' o ho
    | succ i =>
      refine ⟨v, r, rfl, h1.mono (Same.refl _) fun q hq o ho => e 0 t (by omega) rfl q hq o ho, ih h2 (fun j t' hj ht => e (j + 1) t' (by omega) (by simpa using ht)) (by simpa using hw)⟩
theorem TrOk.put {F H H2 : Hp} {t : Tr} {v : V} (h : TrOk F H t v) (nd : ∀ q, t.addrs.count q ≤ 1) : ∀ {pt : List Nat} {u0 u : Tr} {q : Addr}, t.at pt = some u0 → u0.root = some q → u.root = some q → TrOk F H2 u (.ref q) → (∀ b o, b ∉ u0.addrs → H b = some o → H2 b = some o) → TrOk F H2 (t.put pt u) v
  | [], u0, u, q, e, h0, h1, hu, hH => by
    cases e
    cases t with
    | d _ => cases h0
    | nd k a xs => cases h0; rw [h.node.1]; exact hu
  | i :: p, u0, u, q, e, h0, h1, hu, hH => by
    unfold Tr.at at e
    unfold Tr.put
    split at e
    · rename_i k a xs hp
      try rw [hp]
      obtain ⟨w, hw⟩ := h.at hp
      obtain ⟨_, vs, g1, g2, g3⟩ := hw.node
      obtain ⟨z, hz, hz2⟩ := g3.get e
      have hzq : z = .ref q := by
        cases u0 with
        | d _ => cases h0
        | nd k0 a0 xs0 => cases h0; exact hz2.node.1
      subst hzq
      have ndn : ∀ b, (Tr.nd k a xs).addrs.count b ≤ 1 := fun b => Nat.le_trans (cntT_at hp b) (nd b)
      have off : ∀ b, b ∈ u0.addrs → (if a = b then 1 else 0) + k.more.count b = 0 ∧ (Tr.addrsL xs).count b = u0.addrs.count b := fun b hb => by
        have c1 := ndn b
        rw [cnt_nd] at c1
        have c2 := cntL_get e b
        have c3 := List.count_pos_iff.mpr hb
        omega
      have ha : a ∉ u0.addrs := fun z => by have := (off a z).1; simp at this
      refine h.put nd hp rfl rfl (TrOk.of (vs := vs) (hH a _ ha g1) ?_ ?_) fun b o hb ho => hH b o (fun z => hb ?_) ho
      · rw [List.length_set]
        refine Kd.side_mono (F := F) g2 fun b hb o ho => hH b o (fun z => ?_) ho
        have := (off b z).1
        have c := List.count_pos_iff.mpr hb
        omega
      · refine g3.monoBut (fun j t' hj ht b hb o ho => hH b o (fun z => ?_) ho) hz hu
        have c1 := (off b z).2
        have c2 := cntL_set (u := .d .none) e b
        have c3 := cntL_get (ts := xs.set i (.d .none)) (i := j) (t := t') (by rw [List.getElem?_set_ne (fun z => hj z.symm)]; exact ht) b
        have c4 := List.count_pos_iff.mpr hb
        have c5 : (Tr.d .none).addrs.count b = 0 := rfl
        omega
      · have c2 := cntL_get e b
        have c3 := List.count_pos_iff.mpr z
        refine List.count_pos_iff.mp ?_
        rw [cnt_nd]
        omega
    · cases e
theorem flat_count_set {cs : List Cell} {n : Nat} {c d : Cell} (h : cs[n]? = some c) (q : Addr) : ((cs.set n d).flatMap Cell.ads).count q + c.ads.count q = (cs.flatMap Cell.ads).count q + d.ads.count q := by
  induction cs generalizing n with
  | nil => simp at h
  | cons e cs ih =>
    cases n with
    | zero => simp at h; subst h; rw [List.set_cons_zero, List.flatMap_cons, List.flatMap_cons, List.count_append, List.count_append]; omega
    | succ n => rw [List.set_cons_succ, List.flatMap_cons, List.flatMap_cons, List.count_append, List.count_append]; have := ih (n := n) (by simpa using h); omega
theorem flat_count_get {cs : List Cell} {n : Nat} {c : Cell} (h : cs[n]? = some c) (q : Addr) : c.ads.count q ≤ (cs.flatMap Cell.ads).count q := by
  have := flat_count_set (d := .gone) h q
  have e : (Cell.gone).ads.count q = 0 := rfl
  omega
/-- trees that stand in no cell -/
structure Loose (B : Bs) (ad : List Addr) (F H : Hp) (cs : List Cell) (ls : List Tr) : Prop where
  cnt : ∀ q, (Tr.addrsL ls).count q + (cs.flatMap Cell.ads).count q ≤ 1
  off : ∀ q ∈ Tr.addrsL ls, ∀ i : Nat, ad[i]? = some q → cs[i]? = some Cell.gone
  fr : ∀ q ∈ Tr.addrsL ls, F q = none ∧ H q ≠ none
  own : ∀ q ∈ Tr.addrsL ls, q ∈ B.S ∨ q ∈ B.T ∨ B.H0 q = none
section
variable {B : Bs} {ad : List Addr} {F H : Hp} {s : AS} {σ : St} {x : AVal} {v : V} {n : Nat} {pt : List Nat} {k k' : Kd} {q p : Addr} {xs ys ls : List Tr} {t : Tr} {vs ws : List V} {cs : List Cell}
theorem nodup_cnt {l : List Addr} : l.Nodup ↔ ∀ q, l.count q ≤ 1 := List.nodup_iff_count
theorem Loose.nil (r : Rl B ad F H s σ) : Loose B ad F H s.cs [] := ⟨fun q => by rw [cntL_nil]; have := nodup_cnt.mp r.inn.nd q; omega, (fun _ h => nomatch h), (fun _ h => nomatch h), (fun _ h => nomatch h)⟩
theorem NodeAt.mem (N : NodeAt ad F H s v n pt k q xs t p vs) : q ∈ t.addrs := by
  have := cntT_at N.here q
  rw [cnt_nd, if_pos rfl] at this
  exact List.count_pos_iff.mp (by omega)
theorem side_upd {o : HO} {m : Nat} (h : k'.side H q m) (hm : q ∉ k'.more) : k'.side (upd H q o) q m := by
  cases k' with
  | obj C dx fs => exact ⟨by rw [upd_ne (fun z => hm (by simp [Kd.more, z]))]; exact h.1, h.2⟩
  | _ => exact h
/-- a node of a tree changes; loose trees go into it -/
theorem Rl.mutT (r : Rl B ad F H s σ) (L : Loose B ad F H s.cs ls) (N : NodeAt ad F H s v n pt k q xs t p vs) (hm : k'.more = k.more) (hc : ∀ b, (Tr.addrsL ys).count b ≤ (Tr.addrsL xs).count b + (Tr.addrsL ls).count b) (hw : TrAll F H ys ws) (hs : k'.side H q ys.length) :
    Rl B ad F (upd H q (k'.ho ws)) ⟨s.sl, s.cs.set n (.tr (t.put pt (.nd k' q ys)))⟩ σ := by
  have hqt := N.mem
  have hqc : q ∈ s.cs.flatMap Cell.ads := mem_ads N.cell hqt
  have tot := fun b => nodup_cnt.mp r.inn.nd b
  have tcnt : ∀ b, t.addrs.count b ≤ (s.cs.flatMap Cell.ads).count b := fun b => flat_count_get N.cell b
  have ndt : ∀ b, t.addrs.count b ≤ 1 := fun b => Nat.le_trans (tcnt b) (tot b)
  have ndn : ∀ b, (Tr.nd k q xs).addrs.count b ≤ 1 := fun b => Nat.le_trans (cntT_at N.here b) (ndt b)
  have hq1 : 1 ≤ (s.cs.flatMap Cell.ads).count q := List.count_pos_iff.mpr hqc
  have hql := L.cnt q
  have hqn := ndn q
  rw [cnt_nd, if_pos rfl] at hqn
  have hqy : q ∉ Tr.addrsL ys := fun z => by
    have := List.count_pos_iff.mpr z
    have := hc q
    omega
  have hqm : q ∉ k'.more := fun z => by
    rw [hm] at z
    have := List.count_pos_iff.mpr z
    omega
  obtain ⟨hFq, hHq⟩ := r.inn.fr q hqc
  have up : ∀ b, b ≠ q → upd H q (k'.ho ws) b = H b := fun b hb => upd_ne hb
  have cput : ∀ b, (t.put pt (.nd k' q ys)).addrs.count b ≤ t.addrs.count b + (Tr.addrsL ls).count b := fun b => by
    have h1 := cnt_put (u := .nd k' q ys) N.here b
    rw [cnt_nd, cnt_nd, hm] at h1
    have := hc b
    omega
  have hu : TrOk F (upd H q (k'.ho ws)) (.nd k' q ys) (.ref q) := TrOk.of upd_same (side_upd hs hqm) (hw.mono (Same.refl _) fun b hb o ho => by rw [up b (fun z => hqy (z ▸ hb))]; exact ho)
  have htree : TrOk F (upd H q (k'.ho ws)) (t.put pt (.nd k' q ys)) (.ref p) := N.tree.put ndt N.here rfl rfl hu fun b o hb ho => by
    rw [up b (fun z => hb (z ▸ List.mem_cons_self ..))]; exact ho
  have hroot : (t.put pt (.nd k' q ys)).root = some p := by
    rw [root_put (u := .nd k' q ys) N.here rfl]
    exact (r.cel n p _ N.root N.cell).2.2.1
  have hnl : n < s.cs.length := (List.getElem?_eq_some_iff.mp N.cell).1
  have memN : ∀ b, b ∈ (s.cs.set n (.tr (t.put pt (.nd k' q ys)))).flatMap Cell.ads → b ∈ s.cs.flatMap Cell.ads ∨ b ∈ Tr.addrsL ls := fun b hb => by
    have h1 := flat_count_set (d := .tr (t.put pt (.nd k' q ys))) N.cell b
    have h2 := cput b
    have h3 := List.count_pos_iff.mpr hb
    have h4 : (Cell.tr (t.put pt (.nd k' q ys))).ads = (t.put pt (.nd k' q ys)).addrs := rfl
    have h5 : (Cell.tr t).ads = t.addrs := rfl
    rw [h4, h5] at h1
    by_cases h6 : 0 < (s.cs.flatMap Cell.ads).count b
    · exact .inl (List.count_pos_iff.mp h6)
    · have := tcnt b
      exact .inr (List.count_pos_iff.mp (by omega))
  have inn : Inn B ad F (upd H q (k'.ho ws)) (s.cs.set n (.tr (t.put pt (.nd k' q ys)))) := by
    refine ⟨nodup_cnt.mpr fun b => ?_, fun b hb i hi => ?_, fun b hb => ?_, fun b hb => (memN b hb).elim (r.inn.own b) (L.own b), r.inn.old⟩
    · have h1 := flat_count_set (d := .tr (t.put pt (.nd k' q ys))) N.cell b
      have h2 := cput b
      have h3 := L.cnt b
      have h4 : (Cell.tr (t.put pt (.nd k' q ys))).ads = (t.put pt (.nd k' q ys)).addrs := rfl
      have h5 : (Cell.tr t).ads = t.addrs := rfl
      rw [h4, h5] at h1
      omega
    · by_cases hin : i = n
      · subst hin
        rw [N.root] at hi
        cases hi
        exact .inr ⟨_, List.getElem?_set_self hnl, hroot⟩
      · rw [List.getElem?_set_ne (fun z => hin z.symm)]
        rcases memN b hb with hb | hb
        · exact r.inn.off b hb i hi
        · exact .inl (L.off b hb i hi)
    · have : F b = none ∧ H b ≠ none := (memN b hb).elim (r.inn.fr b) (L.fr b)
      refine ⟨this.1, ?_⟩
      by_cases hbq : b = q
      · subst hbq; exact ne_none upd_same
      · rw [up b hbq]; exact this.2
  refine ⟨r.ff, same_mut r.fh hFq, fun b o hb ht e => ?_, fun b hb => ?_, r.new, r.pre, r.nd, by show ad.length = (s.cs.set n _).length; rw [List.length_set]; exact r.len, fun i b c h1 h2 => ?_, r.sln, r.slt, inn⟩
  · rw [up b (fun z => by
      subst z
      rcases r.inn.own b hqc with z | z | z
      · exact hb z
      · exact ht z
      · rw [z] at e; cases e)]
    exact r.hh b o hb ht e
  · by_cases hbq : b = q
    · subst hbq; exact ne_none upd_same
    · rw [up b hbq]; exact r.al b hb
  · by_cases hin : i = n
    · subst hin
      have h2 : (s.cs.set i (.tr (t.put pt (.nd k' q ys))))[i]? = some c := h2
      rw [List.getElem?_set_self hnl] at h2
      cases h2
      rw [N.root] at h1
      cases h1
      refine ⟨?_, (fun z => nomatch z), hroot, htree⟩
      by_cases hbq : p = q
      · subst hbq; exact ne_none upd_same
      · rw [up p hbq]; exact r.mem (List.mem_of_getElem? N.root)
    · have g2 : (s.cs.set n (.tr (t.put pt (.nd k' q ys))))[i]? = some c := h2
      rw [List.getElem?_set_ne (fun z => hin z.symm)] at g2
      obtain ⟨n0, l, ok⟩ := r.cel i b c h1 g2
      have n0' : upd H q (k'.ho ws) b ≠ none := by
        by_cases hbq : b = q
        · subst hbq; exact ne_none upd_same
        · rw [up b hbq]; exact n0
      by_cases hbq : b = q
      · subst hbq
        rcases r.inn.off b hqc i h1 with e | ⟨t', e, er⟩
        · rw [g2] at e; cases e
          exact ⟨n0', (fun z => nomatch z), trivial⟩
        · exfalso
          have hm2 : b ∈ (Cell.tr t').ads := by
            cases t' with
            | d _ => cases er
            | nd _ _ _ => cases er; exact List.mem_cons_self ..
          exact hin ((flat_nd.mp r.inn.nd).2 i n _ _ b e N.cell hm2 hqt)
      · refine ⟨n0', l, ok.mono (Ext.refl _) (Same.refl _) (fun o ho => by rw [up b hbq]; exact ho) fun b' hb' o ho => ?_⟩
        rw [up b' (fun z => by
          subst z
          exact hin ((flat_nd.mp r.inn.nd).2 i n _ _ b' g2 N.cell hb' hqt))]
        exact ho
end
end Kr
/-! layer A19 -/
namespace Kr
open PySem L2
/-! ## cells that go into trees -/
def grabC (f : Nat → Addr) (cs : List Cell) (j : Nat) : Cell → Option (Tr × List Cell)
  | .tr t => some (t, cs.set j .gone)
  | .lst ds => some (.nd .lst (f j) (ds.map .d), cs.set j .gone)
  | .dK kvs => some (.nd (.dct (kvs.map (·.1))) (f j) (kvs.map fun p => .d p.2), cs.set j .gone)
  | .fz x => some (.d x, cs)
  | _ => none
def grab (f : Nat → Addr) (cs : List Cell) : AVal → Option (Tr × List Cell)
  | .d x => some (.d x, cs)
  | .r j => (cs[j]?).bind (grabC f cs j)
  | _ => none
def grabs (f : Nat → Addr) : List Cell → List AVal → Option (List Tr × List Cell)
  | cs, [] => some ([], cs)
  | cs, x :: xs => (grab f cs x).bind fun r => (grabs f r.2 xs).map fun q => (r.1 :: q.1, q.2)
section
variable {B : Bs} {ad : List Addr} {F H : Hp} {s : AS} {σ : St} {x : AVal} {v : V} {n j : Nat} {pt : List Nat} {k k' : Kd} {q p : Addr} {xs ys ls ts : List Tr} {t : Tr} {vs ws : List V} {cs cs2 : List Cell} {c : Cell} {f : Nat → Addr} {sl : List (Option AVal)}
/-! ## slots that spoke of such a cell -/
def Cell.isGone : Cell → Bool
  | .gone => true
  | _ => false
def mvA (f : Nat → Addr) (cs : List Cell) (j n : Nat) (pt : List Nat) : AVal → AVal
  | .r i => if i = j ∧ (cs[j]?).map Cell.isGone = some true then .a (f j) n pt else .r i
  | .a p i pt' => if i = j ∧ (cs[j]?).map Cell.isGone = some true then .a p n (pt' ++ pt) else .a p i pt'
  | x => x
def mvS (f : Nat → Addr) (cs : List Cell) (n : Nat) (pt : List Nat) (x : AVal) (sl : List (Option AVal)) : List (Option AVal) := match x with
  | .r j => sl.map (Option.map (mvA f cs j n pt))
  | _ => sl
def mvL (f : Nat → Addr) (cs : List Cell) (n : Nat) : Nat → List AVal → List (Option AVal) → List (Option AVal)
  | _, [], sl => sl
  | i, x :: xs, sl => mvL f cs n (i + 1) xs (mvS f cs n [i] x sl)
end
/-! ## displays -/
def dspT (k : Kd) (tl : TLA) : TEA := fun s Q => tl s fun xs s1 => xs.length ≤ sizeLine ∧ ∀ f : Nat → Addr, onSome (grabs f s1.cs xs) fun r => Q (.r s1.cs.length) ⟨mvL f r.2 s1.cs.length 0 xs s1.sl, r.2 ++ [.tr (.nd k (f s1.cs.length) r.1)]⟩
section
variable {X : Cx} {B : Bs} {ad : List Addr} {F H : Hp} {s : AS} {σ : St} {x y : AVal} {u v : V} {a b c e o : Expr} {es : List Expr} {pos p2 : Pos} {ta tb tc : TEA} {tl : TLA}
/-! ## a list cell seen as a tree -/
def asTC (f : Nat → Addr) (cs : List Cell) (n : Nat) : Cell → List Cell
  | .lst ds => cs.set n (.tr (.nd .lst (f n) (ds.map .d)))
  | _ => cs
def asT (f : Nat → Addr) (cs : List Cell) : AVal → List Cell
  | .r n => ((cs[n]?).map (asTC f cs n)).getD cs
  | _ => cs
/-! ## lists in trees change -/
def treeC : Cell → Option Tr
  | .tr t => some t
  | _ => none
def treeAt (cs : List Cell) (n : Nat) : Option Tr := (cs[n]?).bind treeC
theorem treeAt_of {cs : List Cell} {n : Nat} {t : Tr} (h : cs[n]? = some (.tr t)) : treeAt cs n = some t := by unfold treeAt; rw [h]; rfl
/-- a list node of a tree -/
def onT (s : AS) (x : AVal) (k : Nat → List Nat → Addr → List Tr → Tr → Prop) : Prop := onSome (nodeAt s x) fun N => N.2.2.1 = .lst ∧ onSome (treeAt s.cs N.1) fun t => k N.1 N.2.1 N.2.2.2.1 N.2.2.2.2 t
theorem onT_ok {k : Nat → List Nat → Addr → List Tr → Tr → Prop} (r : Rl B ad F H s σ) (hx : VOk ad F x u) (h : onT s x k) : ∃ n pt q ts t p vs, NodeAt ad F H s u n pt .lst q ts t p vs ∧ k n pt q ts t := by
  obtain ⟨⟨n, pt, kd, q, ts⟩, hn, hk, t, ht, h⟩ := h
  have hk : kd = .lst := hk
  subst hk
  obtain ⟨t', p, vs, N⟩ := nodeAt_ok r hx hn
  have : t' = t := by
    have := treeAt_of N.cell
    rw [show treeAt s.cs n = some t from ht] at this
    exact (Option.some.inj this).symm
  subst this
  exact ⟨n, pt, q, ts, t', p, vs, N, h⟩
def putT (s : AS) (n : Nat) (pt : List Nat) (q : Addr) (t : Tr) (ys : List Tr) : AS := ⟨s.sl, s.cs.set n (.tr (t.put pt (.nd .lst q ys)))⟩
theorem TrAll.append {F H : Hp} : ∀ {ts us : List Tr} {vs ws : List V}, TrAll F H ts vs → TrAll F H us ws → TrAll F H (ts ++ us) (vs ++ ws)
  | [], _, _, _, h, h' => by obtain rfl := (show _ = [] from h); exact h'
  | t :: ts, us, vs, ws, h, h' => by
    obtain ⟨v, r, rfl, h1, h2⟩ := (show ∃ v r, vs = v :: r ∧ TrOk F H t v ∧ TrAll F H ts r from h)
    exact ⟨v, r ++ ws, rfl, h1, TrAll.append h2 h'⟩
def appendT (x : AVal) (xs : List AVal) : TEA := fun s Q => one (fun y => ∀ f : Nat → Addr, onSome (grab f (asT f s.cs x) y) fun r => onT ⟨s.sl, r.2⟩ x fun n pt q ts t => ts.length < sizeLine ∧ Q (.d .none) (putT ⟨mvS f r.2 n (ts.length :: pt) y s.sl, r.2⟩ n pt q t (ts ++ [r.1]))) xs
def clearT (x : AVal) (xs : List AVal) : TEA := fun s Q => onT s x fun n pt q ts t => Q (.d .none) (putT s n pt q t [])
def extendT (x : AVal) (xs : List AVal) : TEA := fun s Q => one (fun y => onT s x fun n pt q ts t => onSome (listOf s y) fun es => ts.length + es.length ≤ sizeLine ∧ Q (.d .none) (putT s n pt q t (ts ++ es.map .d))) xs
/-! ## x[i] = v -/
def putLC (D : DA) (s : AS) (n : Nat) (i : Int) (d : PyData) : Cell → Prop
  | .lst ds => onSome (ixN ds.length i) fun j => D.nx ⟨s.sl, s.cs.set n (.lst (ds.set j d))⟩
  | .tr (.nd .lst q ts) => onSome (ixN ts.length i) fun j => D.nx (putT s n [] q (.nd .lst q ts) (ts.set j (.d d)))
  | _ => False
def putLV (D : DA) (s : AS) (i : Int) (d : PyData) : AVal → Prop
  | .r n => onSome s.cs[n]? (putLC D s n i d)
  | .a p n pt => onT s (.a p n pt) fun n pt q ts t => onSome (ixN ts.length i) fun j => D.nx (putT s n pt q t (ts.set j (.d d)))
  | _ => False
def putL (tv to ti : TEA) : TSA := fun D s => tv s fun v s1 => to s1 fun x s2 => ti s2 fun y s3 => onSome y.int? fun i => onSome v.data? fun d => putLV D s3 i d x
theorem DaAll.setAt {ds : List PyData} {d : PyData} {w : V} (hd : Da F d w) : ∀ {ds : List PyData} {vs : List V} (j : Nat), DaAll F ds vs → DaAll F (ds.set j d) (vs.set j w)
  | [], _, j, h => by obtain rfl := (show _ = [] from h); exact daAll_nil
  | d0 :: ds, _, j, h => by
    obtain ⟨v0, r, rfl, h1, h2⟩ := (show ∃ v r, _ = v :: r ∧ Da F d0 v ∧ DaAll F ds r from h)
    cases j with
    | zero => exact daAll_cons hd h2
    | succ j => exact daAll_cons h1 (DaAll.setAt (ds := ds) hd j h2)
theorem TrAll.setAt {d : PyData} {w : V} (hd : Da F d w) : ∀ {ts : List Tr} {vs : List V} (j : Nat), TrAll F H ts vs → TrAll F H (ts.set j (.d d)) (vs.set j w)
  | [], _, j, h => by obtain rfl := (show _ = [] from h); exact rfl
  | t :: ts, vs, j, h => by
    obtain ⟨v0, r, rfl, h1, h2⟩ := (show ∃ v r, vs = v :: r ∧ TrOk F H t v ∧ TrAll F H ts r from h)
    cases j with
    | zero => exact ⟨w, r, rfl, hd, h2⟩
    | succ j => exact ⟨v0, r.set j w, rfl, h1, TrAll.setAt hd j h2⟩
theorem ixN_lt {n : Nat} {i : Int} {j : Nat} (h : ixN n i = some j) : j < n := by
  unfold ixN at h
  split at h
  · split at h
    · cases h; omega
    · cases h
  · split at h
    · cases h; omega
    · cases h
theorem sa_putL (hv : EA X B c tc) (ho : EA X B o ta) (hi : EA X B e tb) (hs : swapsWithSole [.Subscript o e p2] c pos.line X.env = pure false := by rfl) (hw : swappedStores [.Subscript o e p2] c X.env = pure none := by rfl)
    (h1 : (assignEach [.Subscript o e p2] X.env).map (·.2) = [assign (.Subscript o e p2) X.env] := by rfl)
    (ha : ∀ v, assign (.Subscript o e p2) X.env v = (do
      let ov ← holding [v] (eval o X.env)
      let iv ← holding [v, ov] (eval e X.env)
      standAt p2
      holding [v, ov, iv] (setItem ov iv v)
      release [v, ov, iv] []) := by intro _; rfl) : SA X B (.Assign [.Subscript o e p2] c pos) (putL tc ta tb) := ⟨fun D s h ad F H σ r =>
  ws_of (ps_asg pe_we (pg_sub pe_we pe_we set_list ha) hs hw h1) ((hv.run ad F H s σ _ r h).imp fun w H1 q => by
    obtain ⟨ad1, F1, v, s1, e1, k1, r1, hv1, q⟩ := q
    refine (ho.run ad1 F1 H1 s1 σ _ r1 q).imp fun u H2 q => ?_
    obtain ⟨ad2, F2, x, s2, e2, k2, r2, hx, q⟩ := q
    refine (hi.run ad2 F2 H2 s2 σ _ r2 q).imp fun z H3 q => ?_
    obtain ⟨ad3, F3, y, s3, e3, k3, r3, hy, i, ei, d, ed, qq⟩ := q
    have := AVal.int?_of ei
    subst this
    have := AVal.data?_of ed
    subst this
    obtain rfl : z = .int i := hy
    have hd : Da F3 d w := Da.mono (k2.trans k3) hv1
    have hx3 := hx.mono e3 k3
    have node : ∀ {n pt q ts t p vs}, NodeAt ad3 F3 H3 s3 u n pt .lst q ts t p vs → (onSome (ixN ts.length i) fun j => D.nx (putT s3 n pt q t (ts.set j (.d d)))) → rSetL u (.int i) w H3 fun H3 => (liftD B D).nx σ H3 := fun {n pt q ts t p vs} N h => by
      obtain ⟨j, hj, h⟩ := h
      have hval := N.val
      subst hval
      refine ⟨q, vs, i, j, rfl, rfl, N.ho, by rw [N.kids.length]; exact hj, ad3, F3, _, r3.mutT (k' := .lst) (Loose.nil r3) N rfl (fun b => ?_) (N.kids.setAt hd j) trivial, h⟩
      have hjl := ixN_lt hj
      have hg : ts[j]? = some ts[j] := List.getElem?_eq_getElem hjl
      have := cntL_set (u := .d d) hg b
      have : (Tr.d d).addrs.count b = 0 := rfl
      omega
    cases x with
    | d _ => exact qq.elim
    | s _ _ => exact qq.elim
    | a p n pt =>
      obtain ⟨n', pt', q', ts, t0, p', vs, N, h⟩ := onT_ok (k := fun n pt q ts t => onSome (ixN ts.length i) fun j => D.nx (putT s3 n pt q t (ts.set j (.d d)))) r3 hx3 qq
      exact node N h
    | r n =>
      obtain ⟨c, hc, qq⟩ := qq
      obtain ⟨p, hp, rfl⟩ := hx3
      cases c with
      | lst ds =>
        obtain ⟨j, hj, qq⟩ := qq
        obtain ⟨_, _, vs, g1, g2⟩ := r3.cel n p _ hp hc
        exact ⟨p, vs, i, j, rfl, rfl, g1, by rw [g2.length]; exact hj, ad3, F3, _, r3.put (c := .lst (ds.set j d)) hp hc rfl ⟨_, upd_same, DaAll.setAt (ds := ds) hd j g2⟩, qq⟩
      | tr t => cases t with
        | d _ => exact qq.elim
        | nd k q0 ts => cases k with
          | lst =>
            obtain ⟨_, _, g1, g2⟩ := r3.cel n p _ hp hc
            cases g1
            obtain ⟨_, vs, g3, g4, g5⟩ := g2.node
            exact node (n := n) (pt := []) (q := p) (ts := ts) (t := .nd .lst p ts) (p := p) (vs := vs) ⟨hc, hp, rfl, rfl, g3, g4, g5, g2⟩ qq
          | tup => exact qq.elim
          | dct _ => exact qq.elim
          | dctT _ => exact qq.elim
          | obj _ _ _ => exact qq.elim
      | _ => exact qq.elim)⟩
end
section
variable {f : Nat → Addr} {cs : List Cell} {j n i : Nat} {pt : List Nat} {p : Addr} {K : PySem.W.Frag} {ns : List Int} {d : PyData} {sl : List (Option AVal)}
theorem mvA_r : mvA f cs j n pt (.r i) = if i = j ∧ (cs[j]?).map Cell.isGone = some true then .a (f j) n pt else .r i := rfl
theorem mvA_a {pt' : List Nat} : mvA f cs j n pt (.a p i pt') = if i = j ∧ (cs[j]?).map Cell.isGone = some true then .a p n (pt' ++ pt) else .a p i pt' := rfl
theorem mvA_d : mvA f cs j n pt (.d d) = .d d := rfl
theorem mvA_s : mvA f cs j n pt (.s K ns) = .s K ns := rfl
theorem mvS_r : mvS f cs n pt (.r j) sl = sl.map (Option.map (mvA f cs j n pt)) := rfl
theorem mvS_d : mvS f cs n pt (.d d) sl = sl := rfl
theorem mvS_a {m : Nat} {pt' : List Nat} : mvS f cs n pt (.a p m pt') sl = sl := rfl
theorem gone_gone : Cell.isGone .gone = true := rfl
theorem gone_fz : Cell.isGone (.fz d) = false := rfl
theorem gone_tr {t : Tr} : Cell.isGone (.tr t) = false := rfl
theorem gone_lst {ds : List PyData} : Cell.isGone (.lst ds) = false := rfl
theorem at_nil {t : Tr} : t.at [] = some t := rfl
theorem at_cons {t : Tr} : t.at (i :: pt) = match t.at pt with | some (.nd _ _ xs) => xs[i]? | _ => none := rfl
theorem put_nil {t u : Tr} : t.put [] u = u := rfl
theorem put_cons {t u : Tr} : t.put (i :: pt) u = match t.at pt with | some (.nd k a xs) => t.put pt (.nd k a (xs.set i u)) | _ => t := rfl
end
end Kr
/-! layer A20 -/
namespace Kr
open PySem L2
/-! ## a tree is told for good -/
theorem kv_zipD {F : Hp} : ∀ {ks : List Key} {ds : List PyData} {vs : List V}, DaAll F ds vs → KvOk F (ks.zip ds) (ks.zip vs)
  | [], _, _, _ => .nil
  | k :: ks, [], vs, h => by obtain rfl := (show vs = [] from h); exact .nil
  | k :: ks, d :: ds, vs, h => by
    obtain ⟨v, r, rfl, h1, h2⟩ := (show ∃ v r, vs = v :: r ∧ Da F d v ∧ DaAll F ds r from h)
    exact .cons ⟨rfl, h1⟩ (kv_zipD h2)
mutual
theorem TrOk.da {F H F2 : Hp} (s : Same F F2) : ∀ {t : Tr} {v : V} {d : PyData}, TrOk F H t v → (∀ b ∈ t.addrs, F2 b = H b) → t.data? = some d → Da F2 d v
  | .d x, v, d, h, _, e => by cases e; exact Da.mono s h
  | .nd k a xs, v, d, h, hb, e => by
    obtain ⟨h0, vs, h1, _, h3⟩ := h.node
    subst h0
    have hb' : ∀ b ∈ a :: (k.more ++ Tr.addrsL xs), F2 b = H b := hb
    have ha := hb' a (List.mem_cons_self ..)
    have hk : ∀ b ∈ Tr.addrsL xs, F2 b = H b := fun b z => hb' b (List.mem_cons_of_mem _ (List.mem_append_right _ z))
    cases k with
    | lst =>
      have e' : (Tr.datas? xs).map PyData.list = some d := e
      cases hd : Tr.datas? xs with
      | none => rw [hd] at e'; cases e'
      | some ds => rw [hd] at e'; cases e'; exact ⟨a, vs, rfl, ha.trans h1, TrAll.da s h3 hk hd⟩
    | tup =>
      have e' : (Tr.datas? xs).map PyData.tuple = some d := e
      cases hd : Tr.datas? xs with
      | none => rw [hd] at e'; cases e'
      | some ds => rw [hd] at e'; cases e'; exact ⟨a, vs, rfl, ha.trans h1, TrAll.da s h3 hk hd⟩
    | dct ks =>
      have e' : (Tr.datas? xs).map (fun ds => dictD (ks.zip ds)) = some d := e
      cases hd : Tr.datas? xs with
      | none => rw [hd] at e'; cases e'
      | some ds => rw [hd] at e'; cases e'; exact Da.ofDict (es := ks.zip vs) (.inl (ha.trans h1)) (daKV_of (kv_zipD (TrAll.da s h3 hk hd)))
    | dctT _ => cases e
    | obj _ _ _ => cases e
theorem TrAll.da {F H F2 : Hp} (s : Same F F2) : ∀ {ts : List Tr} {vs : List V} {ds : List PyData}, TrAll F H ts vs → (∀ b ∈ Tr.addrsL ts, F2 b = H b) → Tr.datas? ts = some ds → DaAll F2 ds vs
  | [], vs, ds, h, _, e => by cases e; exact h
  | t :: ts, vs, ds, h, hb, e => by
    obtain ⟨v, r, rfl, h1, h2⟩ := (show ∃ v r, vs = v :: r ∧ TrOk F H t v ∧ TrAll F H ts r from h)
    have hb' : ∀ b ∈ t.addrs ++ Tr.addrsL ts, F2 b = H b := hb
    unfold Tr.datas? at e
    split at e
    · rename_i y ys h3 h4
      cases e
      exact daAll_cons (TrOk.da s h1 (fun b z => hb' b (List.mem_append_left _ z)) h3) (TrAll.da s h2 (fun b z => hb' b (List.mem_append_right _ z)) h4)
    · cases e
end
def Cell.plain : Cell → Bool
  | .gone => false
  | .tr _ => false
  | _ => true
section
variable {X : Cx} {B : Bs} {ad : List Addr} {F H : Hp} {s : AS} {σ : St} {x y : AVal} {u v : V} {a b c e o : Expr} {es : List Expr} {pos p2 : Pos} {ta tb tc : TEA} {tl : TLA}
def fzTC (m n : Nat) (s : AS) (Q : VQ) : Cell → Prop
  | .fz d => Q (.d d) s
  | .lst ds => m ≤ n ∧ Q (.d (.list ds)) ⟨s.sl, s.cs.set n (.fz (.list ds))⟩
  | .dK ds => m ≤ n ∧ Q (.d (dictD ds)) ⟨s.sl, s.cs.set n (.fz (dictD ds))⟩
  | .tr t => (m ≤ n ∧ (s.cs.take m).all Cell.plain = true) ∧ onSome t.data? fun d => Q (.d d) ⟨s.sl, s.cs.set n (.fz d)⟩
  | _ => False
def fzTV (m : Nat) (s : AS) (Q : VQ) : AVal → Prop
  | .d x => Q (.d x) s
  | .r n => onSome s.cs[n]? (fzTC m n s Q)
  | _ => False
def fzT (m k : Nat) : TEA := fun s Q => onSome (s.sl[k]?.bind id) (fzTV m s Q)
/-! ## a def to which no trees are handed -/
def bodyT0 (k : Nat) (t : Nat → TSA) : SpT := fun xs cs P => cs.flatMap Cell.ads = [] ∧ t cs.length (retD cs.length P) ⟨xs.map some ++ List.replicate k none, cs⟩
end
section
variable {X : Cx} {B : Bs} {ad : List Addr} {F H : Hp} {s : AS} {σ : St} {x y : AVal} {u v : V} {a b c e o : Expr} {es : List Expr} {pos p p2 : Pos} {ta tb tc : TEA} {tl : TLA} {k n : Nat} {f : Addr} {fd : FuncData} {ps : List Str} {t : SpT}
/-! ## a, b = f(..): the tuple told is taken apart -/
def two2 (g1 g2 : TGA) : List AVal → AS → (AS → Prop) → Prop := fun xs s Q => match xs with
  | [x, y] => g1 x s fun s1 => g2 y s1 Q
  | _ => False
/-! ## further list words -/
def insertA (x : AVal) (xs : List AVal) : TEA := fun s Q => two (fun y z => onLst s x fun n ds => onSome y.int? fun i => onSome z.data? fun d => (ds.length < sizeLine ∧ 0 ≤ i ∧ i < 2 ^ 63) ∧ Q (.d .none) ⟨s.sl, s.cs.set n (.lst (ds.take i.toNat ++ [d] ++ ds.drop i.toNat))⟩) xs
def revN (ta : TEA) : TNA := fun s Q => ta s fun x s1 => onSome (listOf s1 x) fun ds => Q (.lst ds.reverse) s1
theorem DaAll.rev : ∀ {ds : List PyData} {vs : List V}, DaAll F ds vs → DaAll F ds.reverse vs.reverse
  | [], _, h => by obtain rfl := (show _ = [] from h); exact daAll_nil
  | d :: ds, _, h => by
    obtain ⟨v, r, rfl, h1, h2⟩ := (show ∃ v r, _ = v :: r ∧ Da F d v ∧ DaAll F ds r from h)
    rw [List.reverse_cons, List.reverse_cons]
    exact (DaAll.rev h2).snoc h1
theorem en_rev {kk : Nat} {p1 p2 p3 : Pos} (ha : EA X B a ta) : EN X B (.Subscript a (.Slice none none (some (.UnaryOp .USub (.Constant (.int 1) kk p1) p2)) p3) pos) (revN ta) := ⟨fun ad F H s σ Q r t =>
  we_of (pe_revL pe_we) ((ha.run ad F H s σ _ r t).imp fun v H1 q => by
    obtain ⟨ad1, F1, x, s1, e1, k1, r1, hv, ds, hds, q⟩ := q
    obtain ⟨l, vs, rfl, h1, h2⟩ := hv.list r1 hds
    exact ⟨l, vs, rfl, SqL.of h1, fun p hp => (PostN.here (c := .lst ds.reverse) r1 hp ⟨_, upd_same, h2.rev⟩ rfl q).up e1 k1⟩)⟩
/-- list(range(n)) -/
def listR1 (ta : TEA) : TNA := fun s Q => ta s fun x s1 => onSome x.int? fun n => (0 ≤ n ∧ n ≤ 16777216) ∧ Q (.lst (intsD 0 n)) s1
/-- a sign, some times or not at all -/
def repZ (x : Str) (n : Int) : Str := if n < 1 then Str.empty else repS x n
theorem op_repZ : OpR X (binaryOp .Mult) (fun x y H Q => ∃ z n, x = V.str z ∧ y = V.int n ∧ -1000 ≤ n ∧ n ≤ 1000 ∧ z.length = 1 ∧ Q (.str (repZ z n)) H) := by
  intro pins s σ H x y v u Q I rx ry h
  obtain ⟨z, n, rfl, rfl, h0, h2, hz, q⟩ := h
  by_cases h1 : 1 ≤ n
  · refine op_repS pins s σ H _ _ v u Q I rx ry ⟨z, n, rfl, rfl, h1, h2, hz, ?_⟩
    unfold repZ at q
    rw [if_neg (by omega)] at q
    exact q
  · obtain ⟨t, rfl⟩ := rx
    obtain ⟨t', rfl⟩ := ry
    refine PySem.P.mul_str_none (by omega) (by omega) ?_
    unfold repZ at q
    rw [if_pos (by omega)] at q
    exact ⟨.str _, H, I.tok _, ⟨_, rfl⟩, q⟩
def mulX : AVal → AVal → TEA := fun x y s Q => match x with
  | .d (.str z) => onSome y.int? fun n => (-1000 ≤ n ∧ n ≤ 1000 ∧ z.length = 1) ∧ Q (.d (.str (repZ z n))) s
  | x => mulA x y s Q
theorem o_mulX : OpA X B (binaryOp .Mult) mulX := fun ad F H s σ x y u v Q r hx hy t => by
  unfold mulX at t
  split at t
  · rename_i z
    obtain ⟨n, en, ⟨h1, h2, h3⟩, q⟩ := t
    have := AVal.int?_of en
    subst this
    exact ⟨_, op_repZ, z, n, hx, hy, h1, h2, h3, .here (x := .d (.str (repZ z n))) r rfl q⟩
  · exact o_mul ad F H s σ _ y u v Q r hx hy t
theorem mulX_int {i : Int} {s : AS} {Q : VQ} : mulX (.d (.int i)) y s Q = onSome y.int? fun j => CMul i j ∧ Q (.d (.int (i * j))) s := rfl
theorem mulX_str {z : Str} {s : AS} {Q : VQ} : mulX (.d (.str z)) y s Q = onSome y.int? fun n => (-1000 ≤ n ∧ n ≤ 1000 ∧ z.length = 1) ∧ Q (.d (.str (repZ z n))) s := rfl
theorem mulX_lst {ds : List PyData} {s : AS} {Q : VQ} : mulX (.d (.list ds)) y s Q = onSome y.int? fun n => (-(2 ^ 63) ≤ n ∧ n < 2 ^ 63 ∧ ds.length * n.toNat ≤ sizeLine) ∧ Q (.d (.list (repL n ds))) s := mulA_lst
theorem mulX_r {m : Nat} {s : AS} {Q : VQ} : mulX (.r m) y s Q = onSome (listOf s (.r m)) fun ds => onSome y.int? fun n => (-(2 ^ 63) ≤ n ∧ n < 2 ^ 63 ∧ ds.length * n.toNat ≤ sizeLine) ∧ Q (.d (.list (repL n ds))) s := rfl
end
/-! ## statements one behind the other, opened up to a test -/
section
variable {t u : TSA} {D : DA} {s : AS} {te tf tg : TEA} {g : TGA} {k m : Nat}
theorem cutA (J : AS → Prop) (h1 : ∀ M, (∀ s', J s' → M s') → t ⟨M, D.rt, D.bk, D.ct⟩ s) (h2 : ∀ s', J s' → u D s') : seqA t u D s := h1 (u D) h2
theorem seq_set : seqA (setA k te) u D s = te s fun x s1 => u D ⟨s1.sl.set k (some x), s1.cs⟩ := rfl
theorem seq_drop : seqA (dropA te) u D s = te s fun _ s1 => u D s1 := rfl
theorem seq_asg : seqA (asgA te g) u D s = te s fun x s1 => g x s1 (u D) := rfl
theorem seq_next : seqA nextA u D s = u D s := rfl
theorem seq_callU {t : SpT} {tl : TLA} {gg : List AVal → AS → (AS → Prop) → Prop} : seqA (callU t tl gg) u D s = tl s fun xs s1 => callW t xs s1 (resU (refsOf xs) fun ys s2 => gg ys s2 (u D)) := rfl
theorem seq_putS : seqA (putS te tf tg) u D s = te s fun v s1 => tf s1 fun x s2 => tg s2 fun y s3 => onDct s3 x fun n ds => onSome y.key? fun k => onSome v.data? fun d => ds.length < sizeLine ∧ u D ⟨s3.sl, s3.cs.set n (.dK (putA ds k d))⟩ := rfl
theorem seq_putL : seqA (putL te tf tg) u D s = te s fun v s1 => tf s1 fun x s2 => tg s2 fun y s3 => onSome y.int? fun i => onSome v.data? fun d => putLV ⟨u D, D.rt, D.bk, D.ct⟩ s3 i d x := rfl
theorem seq_for {ti : AS → (List PyData → AS → Prop) → Prop} : seqA (forA m ti g t) u D s = ti s fun ds s1 => forW m g t ⟨u D, D.rt, D.bk, D.ct⟩ ds s1 := rfl
theorem seq_forD : seqA (forDA m k g t) u D s = onSome (s.sl[k]?.bind id) (forDV m g t ⟨u D, D.rt, D.bk, D.ct⟩ s) := rfl
theorem seq_forH {ti : TIH} : seqA (forHA m ti g t) u D s = forHA m ti g t ⟨u D, D.rt, D.bk, D.ct⟩ s := rfl
theorem seq_aug {gg : Int → Int → Int} : seqA (augS gg te tf tg) u D s = augS gg te tf tg ⟨u D, D.rt, D.bk, D.ct⟩ s := rfl
theorem seq_seq {t' : TSA} : seqA (seqA t t') u D s = seqA t (seqA t' u) D s := rfl
end
/-! ## == [] of a list of trees -/
def emptyC : Cell → Option Bool
  | .lst ds => some ds.isEmpty
  | .fz (.list ds) => some ds.isEmpty
  | .tr (.nd .lst _ ts) => some ts.isEmpty
  | _ => none
def emptyV (s : AS) : AVal → Option Bool
  | .r n => (s.cs[n]?).bind emptyC
  | .d (.list ds) => some ds.isEmpty
  | _ => none
def nilTT (neg : Bool) (ta : TEA) : TTA := fun s Q => ta s fun x s1 => onSome (emptyV s1 x) fun b => Q (b != neg) s1
section
variable {X : Cx} {B : Bs} {ad : List Addr} {F H : Hp} {s : AS} {σ : St} {x y : AVal} {u v : V} {a : Expr} {pos : Pos} {ta : TEA}
theorem emptyV_r {n : Nat} : emptyV s (.r n) = (s.cs[n]?).bind emptyC := rfl
theorem emptyC_l {ds : List PyData} : emptyC (.lst ds) = some ds.isEmpty := rfl
theorem emptyC_t {q : Addr} {ts : List Tr} : emptyC (.tr (.nd .lst q ts)) = some ts.isEmpty := rfl
end
end Kr
/-! layer A21 -/
namespace Kr
open PySem L2
/-! ## is None, is True -/
def noneV : AVal → Option Bool
  | .d .none => some true
  | .d _ => some false
  | .r _ => some false
  | .a _ _ _ => some false
  | .s _ _ => none
def isNT (neg : Bool) : AVal → AVal → TTA := fun x y s Q => y = .d .none ∧ onSome (noneV x) fun b => Q (b != neg) s
def isBT (neg : Bool) : AVal → AVal → TTA := fun x y s Q => onSome x.bool? fun b => onSome y.bool? fun c => Q (decide (b = c) != neg) s
section
variable {X : Cx} {B : Bs} {ad : List Addr} {F H : Hp} {s : AS} {σ : St} {x y : AVal} {u v : V}
theorem noneV_ok {b : Bool} (h : VOk ad F x v) (e : noneV x = some b) : decide (v = .non) = b := by
  cases x with
  | s _ _ => cases e
  | a _ _ _ => cases e; obtain rfl := (show v = .ref _ from h); rfl
  | r n => cases e; obtain ⟨a, _, rfl⟩ := h; rfl
  | d d =>
    cases d with
    | none => cases e; obtain rfl := (show v = .non from h); rfl
    | bool _ => cases e; obtain rfl := (show v = .bl _ from h); rfl
    | int _ => cases e; obtain rfl := (show v = .int _ from h); rfl
    | str _ => cases e; obtain rfl := (show v = .str _ from h); rfl
    | list _ => cases e; obtain ⟨a, xs, rfl, _⟩ := h; rfl
    | tuple _ => cases e; obtain ⟨a, xs, rfl, _⟩ := h; rfl
    | dict _ =>
      cases e
      rcases (show (∃ a es, v = .ref a ∧ _) ∨ ExV F _ v from h) with ⟨a, xs, rfl, _⟩ | ⟨a, C, dx, y, _, rfl, _⟩ <;> rfl
theorem o_isN : OpT X B (compareOp .Is) (isNT false) := fun ad F H s σ x y u v Q r hx hy ⟨ey, b, eb, q⟩ => by
  subst ey
  obtain rfl := (show v = .non from hy)
  refine ⟨_, _, q, op_isN, fun K k => ⟨rfl, ?_⟩⟩
  rw [noneV_ok hx eb]
  simpa using k
theorem o_notN : OpT X B (compareOp .IsNot) (isNT true) := fun ad F H s σ x y u v Q r hx hy ⟨ey, b, eb, q⟩ => by
  subst ey
  obtain rfl := (show v = .non from hy)
  refine ⟨_, _, q, op_notN, fun K k => ⟨rfl, ?_⟩⟩
  rw [noneV_ok hx eb]
  simpa using k
theorem noneV_none : noneV (.d .none) = some true := rfl
theorem noneV_list {ds : List PyData} : noneV (.d (.list ds)) = some false := rfl
theorem noneV_r {n : Nat} : noneV (.r n) = some false := rfl
/-! ## in a list of lists -/
/-! ## tuples told for good: t + u, t[i:], t[:i] -/
def tupD : AVal → Option (List PyData)
  | .d (.tuple ds) => some ds
  | _ => none
theorem tupD_of {ds : List PyData} (e : tupD x = some ds) : x = .d (.tuple ds) := by
  cases x with
  | d x => cases x with
    | tuple es => cases e; rfl
    | _ => cases e
  | _ => cases e
def tcatA : AVal → AVal → TEA := fun x y s Q => onSome (tupD x) fun ds => onSome (tupD y) fun es => ds.length + es.length ≤ sizeLine ∧ Q (.d (.tuple (ds ++ es))) s
def tslA (lo hi : Option Int) (x : AVal) : TEA := fun s Q => onSome (tupD x) fun ds => Q (.d (.tuple (cutD ds lo hi))) s
def tslHi (ta tb : TEA) : TEA := fun s Q => ta s fun x s1 => tb s1 fun y s2 => onSome y.int? fun i => tslA none (some i) x s2 Q
def tslLo (ta tb : TEA) : TEA := fun s Q => ta s fun x s1 => tb s1 fun y s2 => onSome y.int? fun i => tslA (some i) none x s2 Q
theorem tupD_t {ds : List PyData} : tupD (.d (.tuple ds)) = some ds := rfl
end
end Kr
/-! layer A22 -/
namespace Kr
open PySem L2
/-! ## sorted of a list of any data that are alike -/
section
variable {X : Cx} {B : Bs} {ad : List Addr} {F H : Hp} {s : AS} {σ : St} {x y : AVal} {u v : V}
def sortedDN (xs : List AVal) : TNA := fun s Q => one (fun x => onSome (listOf s x) fun ds => (PySem.W.AllAlike ds ∧ PySem.W.Sortable ds ∧ ∀ d ∈ ds, d.canLay0 = true ∧ d.depth ≤ 60) ∧ Q (.lst (ds.mergeSort (PySem.W.dataLe false id))) s) xs
/-! ## list(dict) -/
def listDV (s : AS) (Q : Cell → AS → Prop) : View → Prop
  | .dct kvs => Q (.lst (kvs.map fun kv => keyD kv.1)) s
  | _ => False
def listDN (xs : List AVal) : TNA := fun s Q => one (fun x => listDV s Q (view s x)) xs
theorem listDN_V {Q : Cell → AS → Prop} : listDN [x] s Q = listDV s Q (view s x) := rfl
theorem listDV_dct {Q : Cell → AS → Prop} {kvs : List (Key × AVal)} : listDV s Q (.dct kvs) = Q (.lst (kvs.map fun kv => keyD kv.1)) s := rfl
theorem sortedDN_1 {Q : Cell → AS → Prop} : sortedDN [x] s Q = onSome (listOf s x) fun ds => (PySem.W.AllAlike ds ∧ PySem.W.Sortable ds ∧ ∀ d ∈ ds, d.canLay0 = true ∧ d.depth ≤ 60) ∧ Q (.lst (ds.mergeSort (PySem.W.dataLe false id))) s := rfl
/-! ## a comprehension over a dict that was just made: it stays locked -/
def keysC (m : Nat) (s : AS) (Q : List PyData → (List Cell → Prop) → AS → Prop) (n : Nat) : Cell → Prop
  | .dK kvs => m ≤ n ∧ Q (kvs.map fun kv => keyD kv.1) (fun _ => True) ⟨s.sl, s.cs.set n (.fz (dictD kvs))⟩
  | _ => False
def keysR (m : Nat) (s : AS) (Q : List PyData → (List Cell → Prop) → AS → Prop) : AVal → Prop
  | .r n => onSome s.cs[n]? fun c => keysC m s Q n c
  | _ => False
def iterKC (m : Nat) (ta : TEA) : TIO := fun s Q => ta s fun x s1 => keysR m s1 Q x
theorem iterKC_r {n m : Nat} {Q : List PyData → (List Cell → Prop) → AS → Prop} : keysR m s Q (.r n) = onSome s.cs[n]? fun c => keysC m s Q n c := rfl
theorem keysC_dK {n m : Nat} {kvs : List (Key × PyData)} {Q : List PyData → (List Cell → Prop) → AS → Prop} : keysC m s Q n (.dK kvs) = (m ≤ n ∧ Q (kvs.map fun kv => keyD kv.1) (fun _ => True) ⟨s.sl, s.cs.set n (.fz (dictD kvs))⟩) := rfl
/-! ## text <= text -/
def leST : AVal → AVal → TTA := fun x y s Q => onSome x.str? fun i => onSome y.str? fun j => Q (leS i j) s
/-! ## len(set(texts)) -/
def lenSetA (ta : TEA) : TEA := fun s Q => ta s fun x s1 => onSome (listOf s1 x) fun ds => onSome (strs? ds) fun xs => xs.length ≤ 4000 ∧ Q (.d (.int ((kset xs).length : Int))) s1
end
end Kr
/-! layer A23 -/
namespace Kr
open PySem L2 PySem.Spec PyProof.Rows
/-! ## promises that know that no repr is under way -/
structure FnG (P : Program) (w : World) (K : PySem.W.Frag) (mg : Str → Option Value) (base : Heap) (CX : CXT) (k : Nat) (f : Addr) (fd : FuncData) (ps : List Str) (sp : Sp) : Prop where
  len : ∀ us H Q E, sp us H Q E → us.length = ps.length
  run : ∀ (A : Around) (outer : List Env) (s : Shared) (H : Hp) (args : Args) (us : List Value) (vs : List V) (Q : VK) (E : XK), A.guards = some [] → Room k A → Env0 P w K mg base A outer s H → BindsTo s fd args (ps.zip us) → Vals vs us → sp vs H Q E →
    codeAny (model P w) A (.call (.ref f) args) (CR CX outer P w H s Q E) s
section
variable {P : Program} {w : World} {K : PySem.W.Frag} {mg : Str → Option Value} {base : Heap}
theorem FnG.of {CX : CXT} {k : Nat} {f : Addr} {fd : FuncData} {ps : List Str} {sp : Sp} (h : FnOk P w K mg base CX k f fd ps sp) : FnG P w K mg base CX k f fd ps sp :=
  ⟨h.len, fun A outer s H args us vs Q E _ hr e0 hb hv hs => h.run A outer s H args us vs Q E hr e0 hb hv hs⟩
theorem FnG.mono {CX : CXT} {j k : Nat} {f : Addr} {fd : FuncData} {ps : List Str} {sp : Sp} (h : FnG P w K mg base CX j f fd ps sp) (hjk : j ≤ k) : FnG P w K mg base CX k f fd ps sp :=
  ⟨h.len, fun A outer s H args us vs Q E hg hr e0 hb hv hs => h.run A outer s H args us vs Q E hg (hr.mono hjk) e0 hb hv hs⟩
theorem okGd {x qual : Str} {st : Stmt} {f : Addr} {fd : FuncData} {N ps : List Str} {k : Nat} {sp : Sp} (Fn : Fun K x qual st f fd) (S : FnScope N ps (defScope st)) (len : ∀ us H Q E, sp us H Q E → us.length = ps.length)
    (hbody : ∀ (cdv : Value) (A : Around) (outer : List Env) (s : Shared) (H : Hp) (vs : List V) (Q : VK) (E : XK), A.guards = some [] → Room k (A.deeper (envOfC qual (defScope st) s.heap.objs.size f cdv)) → sp vs H Q E →
      WSs (cxOf CX0 P w K mg base N qual (defScope st) f cdv A outer s H E).nox (defBody st) { nx := fun _ H' => Q .non H', rt := Q } (start N vs) H) : FnG P w K mg base CX0 (k + 1) f fd ps sp := by
  obtain ⟨oc, od, kV, doc, pm, an, cdv, ct, osl, rfl, lk, hcd⟩ := Fn.ex
  refine ⟨len, fun A outer s H args us vs Q E hg hr e0 hb rv hsp => ?_⟩
  have old : ∀ b o, base.get? b = some o → s.heap.get? b = some o := fun b o e => (e0.bs b o e).1
  have kin := e0.mod.kin.keeps old
  have nol := e0.mod.nolimit.keeps old
  refine codeAny_call_function hr.depth (kin _ _ lk) rfl S.co S.gen rfl (PySem.W.codeRec_of kin hcd) (hb _ _ _ _ (wpAny_newFunctionEnv_cells S.kind (fun y hy => ?_) fun env he s1 nw => ?_))
  · rcases S.par y.1 (List.of_mem_zip (a := y.1) (b := y.2) hy).1 with z | z
    · exact .inl z
    · exact .inr ⟨z, PySem.W.cellsFrom_some _ _ _ (.inl z)⟩
  · subst he
    have W := hbody cdv A outer s H vs Q E hg (hr.deeper _) hsp
    have I : Inv (cxOf CX0 P w K mg base N qual (defScope st) f cdv A outer s H E) [] (start N vs) H s1 := inv_start S hr.hd e0 (len _ _ _ _ hsp) rv nw
    refine ⟨nol.keeps nw.toInCall.keep, codeAny_func (wpAny_mono (((pss_wss).nox).run [] s1 (start N vs) H _ I W) (fun fl s' hs => ?_) fun e s' hs => hs)⟩
    cases fl with
    | ret u => obtain ⟨v, σ', H', J, r2, q⟩ := hs; exact ⟨v, H', J.os, J.bare, J.base, J.hok, r2, q⟩
    | next => obtain ⟨σ', H', J, q⟩ := hs; exact ⟨V.non, H', J.os, J.bare, J.base, J.hok, rfl, q⟩
    | brk => obtain ⟨_, _, _, q⟩ := hs; exact q.elim
    | cont => obtain ⟨_, _, _, q⟩ := hs; exact q.elim
end
/-- the law's def, called at the top -/
theorem call_lawG {P : Program} {w : World} {K : PySem.W.Frag} {mg mb : Str → Option Value} {k : Nat} {fa a : Addr} {fd : FuncData} {x : Str} {sp : Sp} {s₁ : Shared} {vs : List Value} {ns : List Int}
    (hK : K.In s₁.heap) (hns : s₁.heap.Ns mainGlobals mg) (hb : s₁.heap.Ns builtinsNs mb) (hbb : ∀ y : Str, y ≠ "__name__" → mb y = bootBuiltins y) (hlim : s₁.heap.NoLimit) (hge : s₁.gens = #[])
    (ha : s₁.heap.get? a = some { cls := .type "list", data := .seq vs.toArray }) (hi : IntsAre vs ns) (hl : ns.length ≤ sizeLine) (hr : Room k callerA) (hgd : callerA.guards = some [])
    (F : ∀ base : Heap, K.In base → base.Ns mainGlobals mg → FnG P w K mg base CX0 k fa fd [x] sp) (hbind : ∀ (s : Shared) (u : Value), BindsTo s fd ⟨[u], []⟩ [(x, u)])
    (hsp : ∀ H : Hp, Only H → SqL K H a (ns.map V.int) → sp [.ref a] H (fun v _ => v = .bl true) fun _ _ _ => False) :
    codeAny (model P w) callerA (.call (.ref fa) ⟨[.ref a], []⟩) (fun r s' => r = .ok (.ret (.bool true)) ∧ OldK s₁.heap s'.heap ∧ s'.os = s₁.os ∧ AllBare s'.gens) s₁ := by
  have at_ : ∀ H : Hp, Only H → SqL K H a (ns.map V.int) → HOk P w H s₁.heap → (∀ b, H b ≠ none → b = a ∧ K.lookup a = none) →
      codeAny (model P w) callerA (.call (.ref fa) ⟨[.ref a], []⟩) (fun r s' => r = .ok (.ret (.bool true)) ∧ OldK s₁.heap s'.heap ∧ s'.os = s₁.os ∧ AllBare s'.gens) s₁ := fun H only sq hok one => by
    have none_of : ∀ {b : Addr}, (b ≠ a ∨ K.lookup a ≠ none) → H b = none := fun {b} hb => Classical.byContradiction fun z => by
      obtain ⟨z1, z2⟩ := one b z
      rcases hb with y | y
      · exact y z1
      · exact y z2
    have nsB : ∀ {b : Addr} {m : Str → Option Value}, s₁.heap.Ns b m → (hidT s₁.heap H).Ns b m := fun {b m} ⟨o, es, ep, e, dd, q⟩ => ⟨o, es, ep, hidT_get e (none_of (.inl fun z => by
      subst z
      have e' := ha.symm.trans e
      cases e'
      cases dd)), dd, q⟩
    have kB : K.In (hidT s₁.heap H) := fun b o e => hidT_get (hK b o e) (Classical.byContradiction fun z => by
      obtain ⟨z1, z2⟩ := one b z
      rw [z1, z2] at e
      cases e)
    have md : Mod K mg (hidT s₁.heap H) := ⟨kB, nsB hns, ⟨mb, nsB hb, hbb⟩, hlim.elim fun mc hm => ⟨mc, nsB hm.1, hm.2⟩⟩
    have e0 : Env0 P w K mg (hidT s₁.heap H) callerA [] s₁ H := { frames := rfl, mod := md, bs := fun b o e => of_hidT e, bsz := Nat.le_of_eq (hidT_size _ _), funs := trivial, frf := (fun b hb => nomatch hb), hok := hok, bare := .of_eq hge }
    refine codeAny_mono ((F _ kB (nsB hns)).run callerA [] s₁ H ⟨[.ref a], []⟩ [.ref a] [.ref a] _ _ hgd hr e0 (hbind s₁ (.ref a)) (.cons rfl .nil) (hsp H only sq)) fun r s' h => ?_
    match r, h with
    | .error _, h => exact h.elim
    | .ok .next, h => exact h.elim
    | .ok .brk, h => exact h.elim
    | .ok .cont, h => exact h.elim
    | .ok (.ret u), ⟨v, H', os, bare, un, hok', r', (q : v = .bl true)⟩ =>
      subst q
      obtain rfl : u = Value.bool true := r'
      refine ⟨rfl, OldK.of_keep fun b o e => ?_, os, bare⟩
      rcases only b with z | ⟨ob, xs, z⟩
      · exact un.keep b o e z (fun y => nomatch y) (fun y => nomatch y)
      · have e1 := (hok b _ z).1
        rw [e] at e1
        cases e1
        exact (hok' b _ (un.frzs b _ _ z)).1
  have rv := vals_ints hi
  cases hk : K.lookup a with
  | some o =>
    have e := ha.symm.trans (hK a o hk)
    cases e
    exact at_ (fun _ => none) (fun _ => .inl rfl) (.inr ⟨_, vs.toArray, _, hk, rfl, rfl, rfl, by rw [List.size_toArray, hi.length]; exact hl, by simpa using rv⟩) (fun b u z => nomatch z) fun b z => absurd rfl z
  | none =>
    have up : ∀ b u, upd (fun _ => none) a (HO.frz { cls := .type "list", data := .seq vs.toArray } (.lst (ns.map V.int))) b = some u → b = a ∧ u = HO.frz { cls := .type "list", data := .seq vs.toArray } (.lst (ns.map V.int)) := fun b u z => by
      by_cases hba : b = a
      · subst hba
        rw [upd_same] at z
        exact ⟨rfl, (Option.some.inj z).symm⟩
      · rw [upd_ne hba] at z; cases z
    refine at_ (upd (fun _ => none) a (HO.frz { cls := .type "list", data := .seq vs.toArray } (.lst (ns.map V.int)))) (fun b => ?_) (.inl (.inr ⟨_, upd_same⟩)) (fun b u z => ?_) fun b z => ?_
    · by_cases hba : b = a
      · subst hba; exact .inr ⟨_, _, upd_same⟩
      · exact .inl (upd_ne hba)
    · obtain ⟨rfl, rfl⟩ := up b u z
      exact ⟨ha, by rw [List.length_map]; exact hl, vs, _, rv, ha⟩
    · obtain ⟨o, z⟩ := some_of_ne z
      exact ⟨(up b o z).1, hk⟩
theorem walkG {l : PySem.W.OpenLaw} {n k : Nat} {q : Program} {loose : List Str} {XP : (Str → Option Value) → Heap → Prop} {YP : World → Heap → Prop} {d : DefRec} {K : Params → PySem.W.Frag} {sp : World → Sp} {x : Str}
    (hn : l.most = some n) (hn2 : n ≤ sizeLine) (hdf : d.params.defaults = []) (hr : Room k callerA) (hgd : callerA.guards = some [])
    (hY : ∀ (w : World) (h : Heap), YP w h → (K w.params).In h)
    (F : ∀ (w : World) (mg : Str → Option Value) (fa : Addr) (h : Heap), (K w.params).In h → h.Ns mainGlobals mg → mg d.name = some (.ref fa) →
      ∃ fd : FuncData, (∀ (s : Shared) (u : Value), BindsTo s fd ⟨[u], []⟩ [(x, u)]) ∧
        ∀ base : Heap, (K w.params).In base → base.Ns mainGlobals mg → FnG l.prog w (K w.params) mg base CX0 k fa fd [x] (sp w))
    (hsp : ∀ (w : World) (H : Hp) (a : Addr) (ns : List Int), ns.length ≤ n → Only H → SqL (K w.params) H a (ns.map V.int) → sp w [.ref a] H (fun v _ => v = .bl true) fun _ _ _ => False) :
    PySem.W.WalkO q loose XP YP l.row.toRowW d [] (fun f vs => PySem.call f vs) :=
  Att.attach_call hn hdf fun w s₀ s₁ mg mb fa o pm cd doc a vs ns G Y ho hd hcd hmg hobj hints hlen hg => by
    obtain ⟨fd, hb, hF⟩ := F w mg fa _ (hY w _ Y) G.T.g hmg
    exact call_lawG (hY w _ Y) G.T.g G.T.b G.T.builtins G.T.nolimit hg hobj hints (Nat.le_trans hlen hn2) hr hgd hF hb fun H hO hS => hsp w H a ns hlen hO hS
/-! ## repr of data -/
section
variable {P : Program} {w : World} {K : PySem.W.Frag} {mg : Str → Option Value} {base : Heap}
theorem FnG.imp {CX : CXT} {k : Nat} {f : Addr} {fd : FuncData} {ps : List Str} {sp sp' : Sp} (h : FnG P w K mg base CX k f fd ps sp) (q : ∀ us H Q E, sp' us H Q E → sp us H Q E) : FnG P w K mg base CX k f fd ps sp' :=
  ⟨fun us H Q E z => h.len us H Q E (q _ _ _ _ z), fun A outer s H args us vs Q E hg hr e0 hb hv hs => h.run A outer s H args us vs Q E hg hr e0 hb hv (q _ _ _ _ hs)⟩
theorem okAG {x qual : Str} {st : Stmt} {f : Addr} {fd : FuncData} {N ps : List Str} {k : Nat} {t : Nat → TSA} (Fn : Fun K x qual st f fd) (S : FnScope N ps (defScope st))
    (hbody : ∀ (cdv : Value) (A : Around) (outer : List Env) (s : Shared) (H : Hp) (E : XK) (B : Bs), A.guards = some [] → Room k (A.deeper (PyProof.Rows.envOfC qual (defScope st) s.heap.objs.size f cdv)) → SS (cxOf CX0 P w K mg base N qual (defScope st) f cdv A outer s H E).nox B (defBody st) (t B.S.length)) :
    FnG P w K mg base CX0 (k + 1) f fd ps (spA ps.length (bodyT (N.length - ps.length) t)) :=
  okGd Fn S (fun vs H Q E ⟨F, ad, cs, xs, P, hl, _⟩ => hl) fun cdv A outer s H vs Q E hg hr ⟨F, ad, cs, xs, P, hl, r, hp, ht, q⟩ => by
    have hsl : Rl (Bs.at ad F H (cs.flatMap Cell.ads)) ad F H ⟨xs.map some ++ List.replicate (N.length - ps.length) none, cs⟩ (start N vs) := by
      refine ⟨r.ff, r.fh, r.hh, r.al, r.new, r.pre, r.nd, r.len, r.cel, ?_, ?_, r.inn⟩
      · unfold L2.start
        simp [Paired.len hp, hl]
      · unfold L2.start
        rw [hl]
        exact paired_slots hp
    have hm : cs.length = ad.length := r.len.symm
    intro pins sh I
    have ht' : t ad.length (retD cs.length P) ⟨xs.map some ++ List.replicate (N.length - ps.length) none, cs⟩ := by rw [← hm]; exact ht
    refine thn ((hbody cdv A outer s H E (Bs.at ad F H (cs.flatMap Cell.ads)) hg hr).run _ _ ht' ad F H _ hsl pins sh I) fun fl s' z => ?_
    cases fl with
    | next =>
      obtain ⟨σ2, H2, I2, ad2, F2, s2, r2, h2⟩ := z
      exact ⟨σ2, H2, I2, q .non H2 (ret_post hm r2 (x := .d .none) rfl h2)⟩
    | brk => obtain ⟨σ2, H2, I2, ad2, F2, s2, r2, h2⟩ := z; exact h2.elim
    | cont => obtain ⟨σ2, H2, I2, ad2, F2, s2, r2, h2⟩ := z; exact h2.elim
    | ret u =>
      obtain ⟨v, σ2, H2, I2, rv, ad2, F2, x2, s2, σ3, r2, hv, h2⟩ := z
      exact ⟨v, σ2, H2, I2, rv, q v H2 (ret_post hm r2 hv h2)⟩
theorem okLaw_AG {f : Addr} {fd : FuncData} {ps : List Str} {k : Nat} {t : SpT} (G : FnG P w K mg base CX0 k f fd ps (spA 1 t)) (h : ∀ ns : List Int, ns.length ≤ 63 → t [.s K ns] [] fun rv _ => rv = .f (.bool true)) : FnG P w K mg base CX0 k f fd ps (spLaw K) := G.imp fun vs H Q E ⟨a, ns, hv, hS, hl, q⟩ => by
  subst hv
  refine ⟨H, [], [], [.s K ns], fun rv _ => rv = .f (.bool true), rfl, ⟨Same.refl _, Same.refl _, fun _ _ _ _ e => e, (fun _ h => by rcases h with h | h <;> cases h), fun _ e _ => e, ⟨[], rfl, (fun _ h => nomatch h)⟩, List.nodup_nil, rfl, fun i p c h1 => by simp at h1, rfl, fun k x h => by simp at h, inn0 rfl rfl⟩, .cons ⟨a, rfl, hS⟩ .nil, h ns hl, fun v H2 hp => ?_⟩
  rcases hp with ⟨F2, x, cs2, _, _, hd, e⟩ | ⟨F2, c, cs2, p, H1, o, _, _, _, _, _, _, _, _, e⟩ | ⟨_, _, _, _, _, _, _, e⟩ | ⟨_, _, _, _, _, _, _, _, e⟩ | ⟨_, _, _, _, _, _, _, _, _, _, _, _, _, e⟩
  · cases e
    obtain rfl : v = .bl true := hd
    exact q H2
  · cases e
  · cases e
  · cases e
  · cases e
end
end Kr
/-! layer A24 -/
/-! layer A25 -/
namespace Kr
open PySem L2
/-! ## texts taken apart -/
section
variable {X : Cx} {B : Bs} {ad : List Addr} {F H : Hp} {s : AS} {σ : L2.St} {x y : AVal} {u v : V} {o e e2 : Expr} {apos p pos tpos : Pos} {ta tb : TEA}
theorem daAll_strsV : ∀ (ys : List Str), DaAll F (ys.map PyData.str) (ys.map V.str)
  | [] => daAll_nil
  | y :: ys => daAll_cons rfl (daAll_strsV ys)
def splitN (to te : TEA) : TNA := fun s Q => to s fun x s1 => onSome x.str? fun z => te s1 fun y s2 => onSome y.str? fun w => ((w.length == 0) = false ∧ z.length + 2 ≤ sizeLine) ∧ Q (.lst ((Txt.split z w).map .str)) s2
theorem en_split (ho : EA X B o ta) (he : EA X B e tb) (hs : starEach [e] X.env = [(false, eval e X.env)] := by rfl) (hbase : attributeBase o "split" X.env (eval o X.env) = eval o X.env := by rfl) (hline : (apos.endLine == pos.line) = true := by rfl) :
    EN X B (.Call (.Attribute o "split" apos) [e] [] pos) (splitN ta tb) := ⟨fun ad F H s σ Q r t =>
  we_of (pe_split pe_we pe_we hs hbase hline) ((ho.run ad F H s σ _ r t).imp fun v H1 q => by
    obtain ⟨ad1, F1, x, s1, e1, k1, r1, hv, z, ez, q⟩ := q
    have := AVal.str?_of ez
    subst this
    refine ⟨⟨z, hv⟩, (he.run ad1 F1 H1 s1 σ _ r1 q).imp fun w H2 q => ?_⟩
    obtain ⟨ad2, F2, y, s2, e2, k2, r2, hw, z2, ez2, ⟨q1, q2⟩, q⟩ := q
    have := AVal.str?_of ez2
    subst this
    refine ⟨z, z2, hv, by rw [show w = .str z2 from hw], q1, q2, fun p hp => (PostN.here (c := .lst _) r2 hp ⟨_, upd_same, daAll_strsV _⟩ rfl q).up (e1.trans e2) (k1.trans k2)⟩)⟩
def partA (to te : TEA) : TEA := fun s Q => to s fun x s1 => onSome x.str? fun z => te s1 fun y s2 => onSome y.str? fun w => ((w.length == 0) = false ∧ z.length ≤ sizeLine) ∧ Q (.d (.tuple [.str (Txt.partition z w).1, .str (Txt.partition z w).2.1, .str (Txt.partition z w).2.2])) s2
theorem ea_part (ho : EA X B o ta) (he : EA X B e tb) (hs : starEach [e] X.env = [(false, eval e X.env)] := by rfl) (hbase : attributeBase o "partition" X.env (eval o X.env) = eval o X.env := by rfl) (hline : (apos.endLine == pos.line) = true := by rfl) :
    EA X B (.Call (.Attribute o "partition" apos) [e] [] pos) (partA ta tb) := ⟨fun ad F H s σ Q r t =>
  we_of (pe_partition pe_we pe_we hs hbase hline) ((ho.run ad F H s σ _ r t).imp fun v H1 q => by
    obtain ⟨ad1, F1, x, s1, e1, k1, r1, hv, z, ez, q⟩ := q
    have := AVal.str?_of ez
    subst this
    refine ⟨⟨z, hv⟩, (he.run ad1 F1 H1 s1 σ _ r1 q).imp fun w H2 q => ?_⟩
    obtain ⟨ad2, F2, y, s2, e2, k2, r2, hw, z2, ez2, ⟨q1, q2⟩, q⟩ := q
    have := AVal.str?_of ez2
    subst this
    refine ⟨z, z2, hv, by rw [show w = .str z2 from hw], q1, q2, fun p hp => (Post.newD (d := .tuple [.str _, .str _, .str _]) r2 hp ⟨p, _, rfl, upd_same, daAll_cons rfl (daAll_cons rfl (daAll_cons rfl daAll_nil))⟩ q).up (e1.trans e2) (k1.trans k2)⟩)⟩
/-! ## two lists walked side by side -/
end
end Kr
/-! layer A26 -/
namespace Kr
open PySem L2
/-! ## defs that may raise an error of a class of the program's own -/
abbrev SpTX := List AVal → List Cell → (RV → List Cell → Prop) → (PyData → List Cell → Prop) → Prop
def errD (C : Addr) (y : PyData) : PyData := .dict (exK C y)
def EPost (ad : List Addr) (F H : Hp) (T : List Addr) (PE : PyData → List Cell → Prop) : Value → Option Addr → Hp → Prop := fun cls d H2 => ∃ C y F2 cs2, cls = .ref C ∧ AtOk F2 y d ∧ Rl (Bs.at ad F H T) ad F2 H2 ⟨[], cs2⟩ [] ∧ (∀ c ∈ cs2, c.flat = true) ∧ PE (errD C y) cs2
def spAX (n : Nat) (t : SpTX) : Sp := fun vs H Q E => ∃ F ad cs xs P PE, vs.length = n ∧ Rl (Bs.at ad F H (cs.flatMap Cell.ads)) ad F H ⟨[], cs⟩ [] ∧ Paired (VOk ad F) xs vs ∧ t xs cs P PE ∧ (∀ v H2, RPost ad F H (cs.flatMap Cell.ads) P v H2 → Q v H2) ∧ ∀ cls d H2, EPost ad F H (cs.flatMap Cell.ads) PE cls d H2 → E cls d H2
/-- what is wished of an error in the air, over abstract states -/
def Lx (B : Bs) (W : PyData → AS → Prop) : WX := fun cls d σ H => ∃ C y ad F s, cls = .ref C ∧ AtOk F y d ∧ Rl B ad F H s σ ∧ W (errD C y) s
section
variable {X : Cx} {B : Bs} {W : PyData → AS → Prop} {k : Nat} {f C : Addr} {fd : FuncData} {ps : List Str} {n : Nat} {t : SpTX} {x : Str} {p pos pos2 p2 : Pos} {e : Expr} {es : List Expr} {tl : TLA}
def raiseA (W : PyData → AS → Prop) (C : Addr) : TSA := fun _ s => W (errD C (.list [])) s
theorem sa_raise {newId initId : String} {bmB : List Value} {Bb : String} {m : Str} {j : Nat} (hc : X.calm = true) (tk : Takes X (Lx B W)) (F : ExcBaseFacts Bb newId initId bmB) (q : PySem.W.excIn X.K C bmB newId = true) (gC : X.mg x = some (.ref C)) (kC : PySem.W.keepIn X.K (.ref C) = true) (hr : Raises X (.ref C)) (hg : Gl X x := by rfl) (hdb : (x == ("__debug__" : Str)) = false := by decide) :
    SA X B (.Raise (some (.Call (.Name x p) [.Constant (.str m) j p2] [] pos2)) none pos) (raiseA W C) := ⟨fun D s h ad F1 H σ r => ws_of (ps_raise hc tk (pmk_own F q gC kC hr hg hdb)) ⟨C, _, ad, F1, s, rfl, .inl ⟨rfl, rfl⟩, r, h⟩⟩
/-- a call that may raise -/
def callWX (t : SpTX) (W : PyData → AS → Prop) (xs : List AVal) (s : AS) (P : RV → AS → Prop) : Prop :=
  (refsOf xs).Nodup ∧ onSome (subC s.cs (refsOf xs)) fun cs => cs.all Cell.pass = true ∧ t (xs.map (ren (refsOf xs))) cs (fun rv cs2 => cs2.length = cs.length → P rv ⟨s.sl, putC s.cs (refsOf xs) cs2⟩) (fun er cs2 => cs2.length = cs.length → W er ⟨s.sl, putC s.cs (refsOf xs) cs2⟩)
def callXF (t : SpTX) (W : PyData → AS → Prop) (tl : TLA) : TEA := fun s Q => tl s fun xs s1 => callWX t W xs s1 (resF Q)
def callXO (t : SpTX) (W : PyData → AS → Prop) (tl : TLA) : TEA := fun s Q => tl s fun xs s1 => callWX t W xs s1 (resO (refsOf xs) Q)
theorem call_postX {ad : List Addr} {F H : Hp} {s : AS} {σ : L2.St} {xs : List AVal} {vs : List V} {P : RV → AS → Prop} {Q : VK} {E : XK} (hn : vs.length = n) (r : Rl B ad F H s σ) (hv : Paired (VOk ad F) xs vs) (h : callWX t W xs s P)
    (hF : ∀ F2 H2 y v s2, Rl B ad F2 H2 s2 σ → Same F F2 → Da F2 y v → P (.f y) s2 → Q v H2)
    (hN : ∀ F2 H1 H2 c p o s2, Rl B ad F2 H1 s2 σ → Same F F2 → H1 p = none → H2 = upd H1 p o → COk ad F2 H2 p c → c.live = true → P (.n c) s2 → Q (.ref p) H2)
    (hT : ∀ F2 H2 t p s2, Rl B (ad ++ [p]) F2 H2 ⟨s2.sl, s2.cs ++ [.tr t]⟩ σ → s2.cs.length = ad.length → Same F F2 → P (.t t) s2 → Q (.ref p) H2)
    (hP : ∀ F2 H2 k n p s2, Rl B ad F2 H2 s2 σ → Same F F2 → (refsOf xs)[k]? = some n → ad[n]? = some p → P (.p k) s2 → Q (.ref p) H2)
    (hU : ∀ F2 H2 ex new ad' ys ws p s2, Rl B (ad ++ ex) F2 H2 ⟨s2.sl, s2.cs ++ new⟩ σ → s2.cs.length = ad.length → Same F F2 → ad'.length = (refsOf xs).length → (∀ (j : Nat) n, (refsOf xs)[j]? = some n → ad'[j]? = ad[n]?) → H2 p = some (.tup ws) → Paired (VOk (ad' ++ ex) F2) ys ws → P (.u ys new) s2 → Q (.ref p) H2)
    (hE : ∀ F2 H2 C y d s2, Rl B ad F2 H2 s2 σ → AtOk F2 y d → W (errD C y) s2 → E (.ref C) d H2) : spAX n t vs H Q E := by
  obtain ⟨nd, cs, hs, hf, ht⟩ := h
  have hf := List.all_eq_true.mp hf
  have hg : ∀ c ∈ cs, c ≠ .gone := fun c hc => pass_gone (hf c hc)
  obtain ⟨ad', hl, he, sub, rs⟩ := r.sub nd hs fun c hc => pass_flat (hf c hc)
  have hcl : cs.length = ad'.length := rs.len.symm
  refine ⟨F, ad', cs, xs.map (ren (refsOf xs)), _, _, hn, rs, paired_ren he (fun n hx => refs_mem hx) hv, ht, fun v H2 hp => ?_, fun cls d H2 hp => ?_⟩
  · rcases hp with ⟨F2, y, cs2, r2, hf2, hd, hp⟩ | ⟨F2, c, cs2, p, H1, o, r2, hf2, rfl, hp1, e2, ok, hlv, hfl, hp⟩ | ⟨F2, t, cs2, p, r2, hf2, rfl, hp⟩ | ⟨F2, cs2, k, p, r2, hf2, hk, rfl, hp⟩ | ⟨F2, cs2, new, ex, ys, ws, p, r2, hl3, hf2, rfl, hpt, hys, hp⟩
    · exact hF F2 H2 y v _ (r.unsub nd hs hg hl he sub r2 hf2) r2.ff hd (hp (by rw [hcl]; exact r2.len.symm))
    · exact hN F2 H1 H2 c p o _ (r.unsub nd hs hg hl he sub r2 hf2) r2.ff hp1 e2 (ok.flat hfl) hlv (hp (by rw [hcl]; exact r2.len.symm))
    · have hl3 : cs2.length = ad'.length := by
        have := r2.len
        simp only [List.length_append, List.length_singleton] at this
        omega
      refine hT F2 H2 t p _ (r.unsubX nd hs hg hl he sub r2 (by omega) (fun c hc => ?_)) ?_ r2.ff (hp (by rw [hcl]; exact hl3))
      · rcases List.mem_append.mp hc with hc | hc
        · exact hf2 c hc
        · rw [List.mem_singleton] at hc; subst hc; rfl
      · show (putC s.cs (refsOf xs) cs2).length = _
        rw [putC_len]; exact r.len.symm
    · have hkl := (List.getElem?_eq_some_iff.mp hk).1
      have hj : (refsOf xs)[k]? = some (refsOf xs)[k] := List.getElem?_eq_getElem (by omega)
      refine hP F2 H2 k _ p _ (r.unsub nd hs hg hl he sub r2 hf2) r2.ff hj ?_ (hp (by rw [hcl]; exact r2.len.symm))
      rw [← he k _ hj]; exact hk
    · refine hU F2 H2 ex new ad' ys ws p _ (r.unsubX nd hs hg hl he sub r2 (by omega) hf2) ?_ r2.ff hl he hpt hys (hp (by rw [hcl]; exact hl3))
      show (putC s.cs (refsOf xs) cs2).length = _
      rw [putC_len]; exact r.len.symm
  · obtain ⟨C, y, F2, cs2, rfl, ha, r2, hf2, hp⟩ := hp
    exact hE F2 H2 C y d _ (r.unsub nd hs hg hl he sub r2 hf2) ha (hp (by rw [hcl]; exact r2.len.symm))
theorem ea_callXF (G : FnOk X.prog X.w X.K X.mg X.base (L2.CX X.prog X.w) k f fd ps (spAX n t)) (hr : Room k X.A) (hm : X.mg x = some (.ref f)) (hk : PySem.W.keepIn X.K (.ref f) = true) (hb : Binds X.K fd ps []) (tk : Takes X (Lx B W)) (ha : EL X B (e :: es) tl)
    (hn : (e :: es).length = n := by rfl) (hg : Gl X x := by rfl) (hdb : (x == ("__debug__" : Str)) = false := by decide) (l : Pl X e es pos := by exact ⟨rfl, rfl⟩) : EA X B (.Call (.Name x p) (e :: es) [] pos) (callXF t W tl) := ⟨fun ad F H s σ Q r h =>
  we_of (pe_callS G hr hg hm hk hb (fun σ => passAt tk σ) pa_wa hdb l.he l.hpl) ((ha.run ad F H s σ _ r h).imp fun vs H1 q => by
    obtain ⟨ad1, F1, xs, s1, e1, k1, r1, hv, hxl, q⟩ := q
    exact call_postX (by rw [← Paired.len hv, hxl]; exact hn) r1 hv q (fun F2 H2 y v s2 r2 k2 hd hp => ⟨ad1, F2, .d y, s2, e1, k1.trans k2, r2, hd, hp⟩)
      (fun F2 H2 H3 c p o s2 r2 k2 hp e3 ok hl hP => PostN.frz (Q := Q) ⟨ad1, F2, c, s2, p, H2, o, e1, k1.trans k2, r2, rfl, hp, e3, ok, hl, hP⟩) (fun F2 H2 t p s2 _ _ _ h => h.elim) (fun F2 H2 k n p s2 _ _ _ _ h => h.elim) (fun F2 H2 ex new ad' ys ws p s2 _ _ _ _ _ _ _ h => h.elim)
      (fun F2 H2 C y d s2 r2 ha w => ⟨C, y, ad1, F2, s2, rfl, ha, r2, w⟩))⟩
end
section
variable {P : Program} {w : World} {K : PySem.W.Frag} {mg : Str → Option Value} {base : Heap}
def excP (m : Nat) (PE : PyData → List Cell → Prop) : PyData → AS → Prop := fun er s => (s.cs.take m).all Cell.flat = true ∧ PE er (s.cs.take m)
def bodyTX (k : Nat) (t : (PyData → AS → Prop) → Nat → TSA) : SpTX := fun xs cs P PE => t (excP cs.length PE) cs.length (retD cs.length P) ⟨xs.map some ++ List.replicate k none, cs⟩
theorem okAX {x qual : Str} {st : Stmt} {f : Addr} {fd : FuncData} {N ps : List Str} {k : Nat} {t : (PyData → AS → Prop) → Nat → TSA} (Fn : Fun K x qual st f fd) (S : FnScope N ps (defScope st))
    (hbody : ∀ (cdv : Value) (A : Around) (outer : List Env) (s : Shared) (H : Hp) (E : XK) (B : Bs) (W : PyData → AS → Prop), Room k (A.deeper (PyProof.Rows.envOfC qual (defScope st) s.heap.objs.size f cdv)) →
      Takes (cxOf (L2.CX P w) P w K mg base N qual (defScope st) f cdv A outer s H E) (Lx B W) → PassesOwn (model P w) (cxOf (L2.CX P w) P w K mg base N qual (defScope st) f cdv A outer s H E).A (cxOf (L2.CX P w) P w K mg base N qual (defScope st) f cdv A outer s H E).env (cxOf (L2.CX P w) P w K mg base N qual (defScope st) f cdv A outer s H E).xe →
      SS (cxOf (L2.CX P w) P w K mg base N qual (defScope st) f cdv A outer s H E) B (defBody st) (t W B.S.length)) :
    FnOk P w K mg base (L2.CX P w) (k + 1) f fd ps (spAX ps.length (bodyTX (N.length - ps.length) t)) :=
  Fn.okX S (fun vs H Q E ⟨F, ad, cs, xs, P, PE, hl, _⟩ => hl) fun cdv A outer s H vs Q E hr ⟨F, ad, cs, xs, Pn, PE, hl, r, hp, ht, q, qE⟩ => by
    have hsl : Rl (Bs.at ad F H (cs.flatMap Cell.ads)) ad F H ⟨xs.map some ++ List.replicate (N.length - ps.length) none, cs⟩ (start N vs) := by
      refine ⟨r.ff, r.fh, r.hh, r.al, r.new, r.pre, r.nd, r.len, r.cel, ?_, ?_, r.inn⟩
      · unfold L2.start
        simp [Paired.len hp, hl]
      · unfold L2.start
        rw [hl]
        exact paired_slots hp
    have hm : cs.length = ad.length := r.len.symm
    refine ⟨_, pss_wss, ?_⟩
    intro pins sh I
    have ht' : t (excP ad.length PE) ad.length (retD cs.length Pn) ⟨xs.map some ++ List.replicate (N.length - ps.length) none, cs⟩ := by rw [← hm]; exact ht
    have tk : Takes (cxOf (L2.CX P w) P w K mg base N qual (defScope st) f cdv A outer s H E) (Lx (Bs.at ad F H (cs.flatMap Cell.ads)) (excP ad.length PE)) := (takes_of rfl rfl rfl rfl).imp fun cls d σ H2 h => by
      obtain ⟨C, y, ad2, F2, s2, rfl, ha, r2, hfl, w2⟩ := h
      exact qE (.ref C) d H2 ⟨C, y, F2, _, rfl, ha, r2.cells (List.all_eq_true.mp hfl), List.all_eq_true.mp hfl, w2⟩
    refine thn ((hbody cdv A outer s H E (Bs.at ad F H (cs.flatMap Cell.ads)) (excP ad.length PE) hr tk (passes_of rfl)).run _ _ ht' ad F H _ hsl pins sh I) fun fl s' z => ?_
    cases fl with
    | next =>
      obtain ⟨σ2, H2, I2, ad2, F2, s2, r2, h2⟩ := z
      exact ⟨σ2, H2, I2, q .non H2 (ret_post hm r2 (x := .d .none) rfl h2)⟩
    | brk => obtain ⟨σ2, H2, I2, ad2, F2, s2, r2, h2⟩ := z; exact h2.elim
    | cont => obtain ⟨σ2, H2, I2, ad2, F2, s2, r2, h2⟩ := z; exact h2.elim
    | ret u =>
      obtain ⟨v, σ2, H2, I2, rv, ad2, F2, x2, s2, σ3, r2, hv, h2⟩ := z
      exact ⟨v, σ2, H2, I2, rv, q v H2 (ret_post hm r2 hv h2)⟩
end
end Kr
/-! layer A27 -/
namespace Kr
open PySem L2 PySem.Spec
open PyProof.Rows hiding St
/-! ## sorted(d.values()) of texts, dict(d) -/
section
variable {X : Cx} {B : Bs} {ad : List Addr} {F H : Hp} {s : AS} {σ : St} {x y : AVal} {u v : V}
variable {o : Expr} {p pos apos mpos : Pos} {td : TE}
def txtVals : List (Key × AVal) → Option (List Str)
  | [] => some []
  | p :: r => (AVal.str? p.2).bind fun x => (txtVals r).map (x :: ·)
def srtVN (ta : TEA) : TNA := fun s Q => ta s fun x s1 => match view s1 x with
  | .dct kvs => onSome (txtVals kvs) fun ks => ks.length < 64 ∧ Q (.lst ((srt ks).map .str)) s1
  | _ => False
/-! dict(d) -/
def datKV : List (Key × AVal) → Option (List (Key × PyData))
  | [] => some []
  | p :: r => (AVal.data? p.2).bind fun x => (datKV r).map ((p.1, x) :: ·)
def dictDN (xs : List AVal) : TNA := fun s Q => one (fun x => match view s x with
  | .dct kvs => onSome (datKV kvs) fun ks => Q (.dK ks) s
  | _ => False) xs
theorem datKV_dkv (kvs : List (Key × PyData)) : datKV (dkv kvs) = some kvs := by
  induction kvs with
  | nil => rfl
  | cons p r ih => show (some p.2).bind (fun x => (datKV (dkv r)).map ((p.1, x) :: ·)) = _; rw [ih]; rfl
theorem txtVals_dkv (kvs : List (Key × Str)) : txtVals (dkv (kvs.map fun p => (p.1, PyData.str p.2))) = some (kvs.map (·.2)) := by
  induction kvs with
  | nil => rfl
  | cons p r ih => show (some p.2).bind (fun x => (txtVals (dkv (r.map fun p => (p.1, PyData.str p.2)))).map (x :: ·)) = _; rw [ih]; rfl
def srtVV (s : AS) (Q : Cell → AS → Prop) : View → Prop
  | .dct kvs => onSome (txtVals kvs) fun ks => ks.length < 64 ∧ Q (.lst ((srt ks).map .str)) s
  | _ => False
def dictDV (s : AS) (Q : Cell → AS → Prop) : View → Prop
  | .dct kvs => onSome (datKV kvs) fun ks => Q (.dK ks) s
  | _ => False
theorem srtVV_dct {Q : Cell → AS → Prop} {kvs : List (Key × AVal)} : srtVV s Q (.dct kvs) = onSome (txtVals kvs) fun ks => ks.length < 64 ∧ Q (.lst ((srt ks).map .str)) s := rfl
theorem dictDV_dct {Q : Cell → AS → Prop} {kvs : List (Key × AVal)} : dictDV s Q (.dct kvs) = onSome (datKV kvs) fun ks => Q (.dK ks) s := rfl
theorem srtVN_V {ta : TEA} {Q : Cell → AS → Prop} : srtVN ta s Q = ta s fun x s1 => srtVV s1 Q (view s1 x) := by
  unfold srtVN
  congr 1
theorem dictDN_V {Q : Cell → AS → Prop} : dictDN [x] s Q = dictDV s Q (view s x) := by
  show (match view s x with | .dct kvs => onSome (datKV kvs) fun ks => Q (.dK ks) s | _ => False) = _
  cases view s x <;> rfl
end
end Kr
/-! layer A28 -/
namespace L2
open PySem PySem.Spec PyProof.Rows
section
variable {X : Cx} {pins : List (Addr × Obj)} {σ : St} {H : Hp} {s : Shared}
/-- an object that wasn't tracked is tracked -/
theorem Inv.track {a : Addr} {oe : Obj} {vs : Array Value} {φ : Heap → Prop} (I : Inv X pins σ H s) (e : s.heap.get? a = some oe) (hd : oe.data = .fields vs) (na : H a = none) (nL : a ≠ X.env.locals) (np : ∀ p ∈ X.pn ++ pins, p.1 ≠ a)
    (n0 : ∀ o, X.s_0.heap.get? a = some o → X.H_0 a = none → a ∉ X.ex → False) (hφ : φ s.heap) (st : ∀ h1 h2 : Heap, φ h1 → (∀ o, h1.get? a = some o → h2.get? a = some o) → φ h2) : Inv X pins σ (upd H a (.ext φ)) s := by
  refine ⟨I.ok, I.os, I.bare, ⟨I.base.keep, I.base.slot, fun b o q n hx => ?_, I.base.there, fun b xs q => ?_, fun b o u q => ?_, fun b ps q => ?_⟩, I.loc, I.cell, ?_, fun x c q => ?_, fun p hp => ?_, fun b u q => ?_, I.len⟩
  · by_cases hb : b = a
    · subst hb; exact (n0 o q n hx).elim
    · rw [upd_ne hb]; exact I.base.free b o q n hx
  · have z := I.base.tups b xs q
    rw [upd_ne (ne_of_none z na)]; exact z
  · have z := I.base.frzs b o u q
    rw [upd_ne (ne_of_none z na)]; exact z
  · obtain ⟨m, z⟩ := I.base.tbls b ps q
    exact ⟨m, by rw [upd_ne (ne_of_none z na)]; exact z⟩
  · rw [upd_ne (Ne.symm nL)]; exact I.free
  · have hc : c ≠ a := fun z => by
      obtain ⟨v, o, ho, hd'⟩ := I.cell x c q
      rw [z, e] at ho; cases ho; rw [hd] at hd'; cases hd'
    rw [upd_ne hc]; exact I.freeC x c q
  · obtain ⟨p1, p2, p3, p4, p5⟩ := I.pin p hp
    exact ⟨p1, by rw [upd_ne (np p hp)]; exact p2, p3, p4, p5⟩
  · by_cases hb : b = a
    · subst hb
      rw [upd_same] at q
      cases q
      exact ⟨hφ, ⟨oe, e⟩, st⟩
    · rw [upd_ne hb] at q
      exact (I.hok b u q).stay (fun c v _ z => z) (fun c z => by rw [upd_ne (ne_of_none z na)]; exact z) fun c xs z => by rw [upd_ne (ne_of_none z na)]; exact z
end
/-- an error that was caught in the frame of X: the def's own state J without it, and where its object lies (h: the heap of now) -/
structure Caught (X : Cx) (pins : List (Addr × Obj)) (σ : St) (H : Hp) (C a : Addr) (d : Option Addr) (B : Heap) (sI s' : Shared) (h : Heap) : Prop where
  J : Inv X pins σ H sI
  na : H a = none
  nb : ∀ b o, sI.heap.get? b = some o → b ∉ frs X.stack → B.get? b = some o
  os : s'.os = sI.os
  ag : AllBare s'.gens
  up : sI.heap.UpToSlots h
  fl : HandSPX.FlyingZ B (X.env :: X.outer) a (Zc (.ref C) d) h
section
variable {X : Cx} {pins : List (Addr × Obj)} {σ : St} {H : Hp} {C a : Addr} {d : Option Addr} {B : Heap} {sI s' : Shared} {h h' : Heap}
theorem Caught.next (c : Caught X pins σ H C a d B sI s' h) (up : h.UpToSlots h') (fl : HandSPX.FlyingZ B (X.env :: X.outer) a (Zc (.ref C) d) h') : Caught X pins σ H C a d B sI s' h' :=
  ⟨c.J, c.na, c.nb, c.os, c.ag, c.up.trans up, fl⟩
theorem Caught.inv (c : Caught X pins σ H C a d B sI s' h) : Inv X pins σ H { s' with heap := h } := c.J.landed c.nb c.fl.1 c.up c.os c.ag
theorem Caught.off (c : Caught X pins σ H C a d B sI s' h) : a ∉ frs (X.env :: X.outer) := fun m => by
  obtain ⟨oe, vs, h1, _, h2⟩ := c.fl.there
  obtain ⟨_, u, h3, h4⟩ := c.fl.2.2.1.mem m
  rw [h1] at h3
  exact h4 vs (Option.some.inj h3 ▸ h2)
theorem Caught.offS (c : Caught X pins σ H C a d B sI s' h) (hs : X.stack = X.env :: X.outer) : a ∉ frs X.stack := hs ▸ c.off
theorem Caught.offL (c : Caught X pins σ H C a d B sI s' h) (hf : X.env.frame = some X.env.locals) : a ≠ X.env.locals := fun z => c.off (by
  rw [z]
  exact List.mem_filterMap.mpr ⟨X.env, List.mem_cons_self, hf⟩)
theorem Caught.offF (c : Caught X pins σ H C a d B sI s' h) : a ∉ X.fs := fun m => c.off (by
  obtain ⟨e, h1, h2⟩ := List.mem_filterMap.mp m
  exact List.mem_filterMap.mpr ⟨e, List.mem_cons_of_mem _ h1, h2⟩)
/-- it is none of the objects that stood before -/
theorem Caught.fresh (c : Caught X pins σ H C a d B sI s' h) (hs : X.stack = X.env :: X.outer) {o : Obj} (e : sI.heap.get? a = some o) : False := by
  have z := c.nb a o e (c.offS hs)
  rw [c.fl.2.1] at z
  cases z
theorem Caught.suite (c : Caught X pins σ H C a d B sI s' h) (hf : X.env.frame = some X.env.locals) : ∃ oe vs, oe.data = .fields vs ∧ Zc (.ref C) d oe ∧ Inv (X.suite a ((a, oe) :: (X.pn ++ pins))) [] σ H { s' with heap := h } := by
  obtain ⟨oe, vs, h1, h2, h3⟩ := c.fl.there
  exact ⟨oe, vs, h3, h2, c.inv.suite h1 h3 c.na (c.offL hf) c.offF⟩
/-- behind the suite: it is tracked -/
theorem Caught.out (c : Caught X pins σ H C a d B sI s' h) (ok : X.Ok) (hs : X.stack = X.env :: X.outer) (hf : X.env.frame = some X.env.locals) {σ6 : St} {H6 : Hp} {s6 : Shared} {oe : Obj} {vs : Array Value} (hd : oe.data = .fields vs) (hz : Zc (.ref C) d oe)
    (S : Inv (X.suite a ((a, oe) :: (X.pn ++ pins))) [] σ6 H6 s6) : Inv X pins σ6 (upd H6 a (.ext (Kr.ExP C d a))) s6 := by
  obtain ⟨g1, g2, _⟩ := S.pin (a, oe) (List.mem_append_left _ List.mem_cons_self)
  refine (S.unsuite ok).track g1 hd g2 (c.offL hf) (fun p hp z => ?_) (fun o q n hx => c.fresh hs (c.J.base.keep a o q n c.offF hx)) ⟨oe, vs, g1, hz, hd⟩ fun h1 h2 ⟨o, v, z1, z2⟩ k => ⟨o, v, k o z1, z2⟩
  have p1 := (c.J.pin p hp).1
  rw [z] at p1
  exact c.fresh hs p1
end
/-- what is wished of an error that the clause 'except x as n' keeps -/
def wKeep (K : PySem.W.Frag) (c : Value) (i : Nat) (ts : Addr → TS) (D : Ends) : WX := fun cls d σ H => PySem.W.exmOne K cls c = some true ∧ ∃ C, cls = .ref C ∧ ∀ a, H a = none → i < σ.length →
  ts a { nx := fun σ' H' => D.nx (σ'.set i none) (upd H' a (.ext (Kr.ExP C d a))), rt := fun _ _ => False, bk := fun _ _ => False, ct := fun _ _ => False } (σ.set i (some (.ref a))) H
section
variable {X : Cx} {x n : Str} {c : Value} {i : Nat} {body suite : List Stmt} {b₀ : Stmt} {np pos pos' : Pos} {tb : WX → TS} {ts : Addr → TS}
abbrev clauseOf (x n : Str) (np pos' : Pos) (b₀ : Stmt) (suite : List Stmt) : List ExceptHandler := [.ExceptHandler (some (.Name x np)) (some n) (b₀ :: suite) pos']
/-- the clause, from where the error is noted on -/
theorem keep_clause {pins : List (Addr × Obj)} {D : Ends} {u : Value} {s' : Shared} (ok : X.Ok) (hs : X.stack = X.env :: X.outer) (hf : X.env.frame = some X.env.locals) (hN : X.N.Nodup) (hi : X.N[i]? = some n) (hln : X.env.kindOf n = some .local) (hc : Names X x c)
    (hsu : ∀ (a : Addr) (oe : Obj) (pn : List (Addr × Obj)), (∃ vs, oe.data = .fields vs) → PSs (X.suite a ((a, oe) :: pn)) (b₀ :: suite) (ts a))
    {xe : Value → Shared → Prop} (h : XE (X.tr (X.pn ++ pins) xe) (wKeep X.K c i ts D) u s') :
    wpAny (model X.prog X.w) X.A (noteFrame u X.env) (fun _ s₂ => wpAny (model X.prog X.w) X.A (setFlight u none) (fun _ s₃ => wpAny (model X.prog X.w) X.A (handleBy u X.env (clauseOf x n np pos' b₀ suite)) (SP X pins D) X.xe s₃) X.xe s₂) X.xe s' := by
  obtain ⟨a, B, sI, pins', σ, H, cls, d, rfl, I0, nb, up, sky, na, os, ag, hm, C, rfl, go⟩ := h
  have J : Inv X pins σ H sI := I0.ofTry ok
  have hlt : i < σ.length := J.len ▸ (List.getElem?_eq_some_iff.mp hi).1
  rw [show (X.tr (X.pn ++ pins) xe).stack = X.env :: X.outer from hs] at sky
  refine Sky.land Zc.steady (by rw [ok.frames, hs]) hf sky fun h3 fl3 up3 => ?_
  have c3 : Caught X pins σ H C a d B sI s' h3 := ⟨J, na, nb, os, ag, up.trans up3, fl3⟩
  obtain ⟨oe, vs, hd, hz, S⟩ := c3.suite hf
  refine wpAny_handleBy_cons (codeAny_handlers_test ?_) (fun q => nomatch q)
  obtain ⟨of, _, g1, g2, _⟩ := c3.fl.there
  have isT := PySem.W.exm_one (M := model X.prog X.w) c3.inv.kIn (e := a) (fun A Q E s k q => wpAny_typeOf_ref (k _ _ g1) (by rw [g2.1]; exact q)) hm
  have named : wpAny (model X.prog X.w) (X.A.mark (some (.ref a))) (eval (.Name x np) X.env) (fun v s => v = c ∧ s = { s' with heap := h3 }) (fun _ _ => False) { s' with heap := h3 } := by
    rcases hc with ⟨g1, g2, g3 | ⟨g3, g4, g5⟩⟩
    · exact (ld_glob (X := X.suite a ((a, oe) :: (X.pn ++ pins))) S g1 g3 ⟨rfl, rfl⟩ g2)
    · exact (ld_blt (X := X.suite a ((a, oe) :: (X.pn ++ pins))) S g1 g3 g4 ⟨rfl, rfl⟩ g5 g2)
  refine wpAny_mono named (fun v s ⟨ev, es⟩ => ?_) fun _ _ z => z.elim
  subst ev es
  refine isT.here (codeAny_handlers_suite_as (HandSPX.lands_againZ fl3 fun h4 fl4 up4 => ?_))
  have c4 := c3.next up4 fl4
  obtain ⟨oe4, vs4, hd4, hz4, S4⟩ := c4.suite hf
  refine store_ok (X := X.suite a ((a, oe4) :: (X.pn ++ pins))) (v := .ref a) S4 hN hi (.inl hln) rfl (fun s5 S5 => ?_) (.inr hln)
  refine wpAny_mono ((hsu a oe4 _ ⟨_, hd4⟩).run [] s5 _ H _ S5 (go a na hlt)) (fun f s6 e => ?_) fun _ _ z => z.elim
  cases f with
  | next =>
    obtain ⟨σ6, H6, S6, q6⟩ := e
    exact gone_ok (c4.out ok hs hf hd4 hz4 S6) hN hi hln fun s7 J7 => ⟨_, _, J7, q6⟩
  | brk => exact e.elim fun _ e => e.elim fun _ e => e.2.elim
  | cont => exact e.elim fun _ e => e.elim fun _ e => e.2.elim
  | ret u => exact e.elim fun _ e => e.elim fun _ e => e.elim fun _ e => e.2.2.elim
/-- try: body / except x as n: suite, where the suite ends and keeps the error in some name -/
theorem ps_try_keep (hs : X.stack = X.env :: X.outer) (hf : X.env.frame = some X.env.locals) (hN : X.N.Nodup) (hi : X.N[i]? = some n) (hln : X.env.kindOf n = some .local) (hc : Names X x c)
    (hb : ∀ (W : WX) (pn : List (Addr × Obj)) (xe : Value → Shared → Prop), Takes (X.tr pn xe) W → PassesOwn (model X.prog X.w) X.A X.env xe → PSs (X.tr pn xe) body (tb W))
    (hsu : ∀ (a : Addr) (oe : Obj) (pn : List (Addr × Obj)), (∃ vs, oe.data = .fields vs) → PSs (X.suite a ((a, oe) :: pn)) (b₀ :: suite) (ts a)) :
    PS X (.Try body (clauseOf x n np pos' b₀ suite) [] [] pos) (fun D σ H => tb (wKeep X.K c i ts D) D σ H) := ⟨fun pins s σ H D I h => by
  refine wpAny_Try_except (wpAny_mono ((hb (wKeep X.K c i ts D) (X.pn ++ pins) _ (fun u s' e => keep_clause I.ok hs hf hN hi hln hc hsu e) PassesOwn.looking).run [] s σ H D (I.toTry _) h) (fun f s1 e => ?_) fun _ _ z => z)
  have back : ∀ {σ' : St} {H' : Hp} {xe : Value → Shared → Prop}, Inv (X.tr (X.pn ++ pins) xe) [] σ' H' s1 → Inv X pins σ' H' s1 := fun J => J.ofTry I.ok
  cases f with
  | next => exact wpAny_execs_nil (e.imp fun _ e => e.imp fun _ e => ⟨back e.1, e.2⟩)
  | brk => exact e.imp fun _ e => e.imp fun _ e => ⟨back e.1, e.2⟩
  | cont => exact e.imp fun _ e => e.imp fun _ e => ⟨back e.1, e.2⟩
  | ret u => exact e.imp fun _ e => e.imp fun _ e => e.imp fun _ e => ⟨back e.1, e.2⟩⟩
end
end L2
namespace Kr
open PySem L2
/-! ## errors of the program's own classes, by names -/
inductive XN where
  | house | plain | order | number | kind | many | text | row | step
  deriving DecidableEq
def XN.all : List XN := [.house, .plain, .order, .number, .kind, .many, .text, .row, .step]
def XN.name : XN → Str
  | .house => "NoHouse" | .plain => "NoPlain" | .order => "NoOrder" | .number => "NoNumber" | .kind => "NoKind" | .many => "TooMany" | .text => "NoText" | .row => "NoRow" | .step => "NoStep"
/-- where the classes lie -/
structure ExT where
  c : XN → Addr
  inj : ∀ a b, c a = c b → a = b
def exD (E : ExT) (n : XN) (y : PyData) : PyData := errD (E.c n) y
def exOf (E : ExT) : PyData → Option (XN × PyData)
  | .dict [(.none, .tuple [.int C, y])] => (XN.all.find? fun n => decide (((E.c n : Nat) : Int) = C)).map fun n => (n, y)
  | _ => none
theorem XN.mem_all (n : XN) : n ∈ XN.all := by cases n <;> decide
theorem exOf_err {E : ExT} {C : Addr} {y : PyData} {p : XN × PyData} (h : exOf E (errD C y) = some p) : C = E.c p.1 ∧ y = p.2 := by
  have h' : (XN.all.find? fun n => decide (((E.c n : Nat) : Int) = ((C : Nat) : Int))).map (fun n => (n, y)) = some p := h
  obtain ⟨n, hn, rfl⟩ := Option.map_eq_some_iff.mp h'
  have := List.find?_some hn
  have := of_decide_eq_true this
  exact ⟨(Int.ofNat.inj this).symm, rfl⟩
theorem exOf_exD {E : ExT} {n : XN} {y : PyData} : exOf E (exD E n y) = some (n, y) := by
  show (XN.all.find? fun m => decide (((E.c m : Nat) : Int) = ((E.c n : Nat) : Int))).map (fun n => (n, y)) = some (n, y)
  cases hf : XN.all.find? fun m => decide (((E.c m : Nat) : Int) = ((E.c n : Nat) : Int)) with
  | none =>
    have := List.find?_eq_none.mp hf n n.mem_all
    simp at this
  | some m =>
    have := List.find?_some hf
    have := of_decide_eq_true this
    have := E.inj m n (Int.ofNat.inj this)
    subst this
    rfl
def subX (n : XN) (nm : Str) : Bool := decide (nm = n.name) || decide (nm = "KeyroomError") || decide (nm = "ValueError")
/-- the slots behind a try whose suite keeps the error -/
theorem Rl.keepE {B : Bs} {ad : List Addr} {F H : Hp} {s : AS} {σ : L2.St} {x : AVal} {v w : V} (r : Rl B ad F H s σ) (hv : VOk ad F x v) (i j : Nat) : Rl B ad F H ⟨(s.sl.set j (some x)).set i none, s.cs⟩ (((σ.set i (some w)).set j (some v)).set i none) := by
  have r2 := r.set (k := j) hv
  refine ⟨r2.ff, r2.fh, r2.hh, r2.al, r2.new, r2.pre, r2.nd, r2.len, r2.cel, ?_, fun k y hy => ?_, r2.inn⟩
  · have := r2.sln
    simp only [List.length_set] at this ⊢
    exact this
  · have hki : k ≠ i := fun z => by
      subst z
      have hy : ((s.sl.set j (some x)).set k none)[k]? = some (some y) := hy
      rw [List.getElem?_set] at hy
      simp at hy
    have hy : ((s.sl.set j (some x)).set i none)[k]? = some (some y) := hy
    rw [List.getElem?_set_ne (fun z => hki z.symm)] at hy
    obtain ⟨u, h1, h2⟩ := r2.slt k y hy
    refine ⟨u, ?_, h2⟩
    rw [List.getElem?_set_ne (fun z => hki z.symm)]
    by_cases hkj : k = j
    · subst hkj
      rw [List.getElem?_set] at h1 ⊢
      simpa using h1
    · rw [List.getElem?_set_ne (fun z => hkj z.symm)] at h1 ⊢
      rw [List.getElem?_set_ne (fun z => hki z.symm)]
      exact h1
theorem Da.err {F : Hp} {a C : Addr} {y : PyData} {d : Option Addr} (h : F a = some (.ext (ExP C d a))) (ha : AtOk F y d) : Da F (errD C y) (.ref a) :=
  (show (∃ b es, V.ref a = .ref b ∧ Rd F b (.dK es) ∧ DaKV F (exK C y) es) ∨ ExV F (exK C y) (.ref a) from .inr ⟨a, C, d, y, rfl, rfl, h, ha⟩)
theorem Da.ofErr {F : Hp} {C : Addr} {y : PyData} {v : V} (h : Da F (errD C y) v) : ∃ a d, v = .ref a ∧ F a = some (.ext (ExP C d a)) ∧ AtOk F y d := by
  rcases (show (∃ b es, v = .ref b ∧ Rd F b (.dK es) ∧ DaKV F (exK C y) es) ∨ ExV F (exK C y) v from h) with ⟨b, es, _, _, h3⟩ | ⟨a, C', d, y', e, rfl, h1, h2⟩
  · obtain ⟨k', v', r, _, hk, _⟩ := (show ∃ k' v r, es = (k', v) :: r ∧ KeyD .none k' ∧ Da F (.tuple [.int C, y]) v ∧ DaKV F [] r from h3)
    cases k' <;> exact hk.elim
  · have e2 : PyData.tuple [.int C, y] = .tuple [.int C', y'] := by
      have := congrArg (fun l => (l.head?.map (·.2))) e
      simpa [exK] using this
    have e3 : [PyData.int C, y] = [.int C', y'] := by injection e2
    have e4 : ((C : Nat) : Int) = (C' : Nat) ∧ y = y' := by simpa using e3
    obtain ⟨e5, rfl⟩ := e4
    have : C = C' := Int.ofNat.inj e5
    subst this
    exact ⟨a, d, rfl, h1, h2⟩
def tryK (E : ExT) (L : List XN) (nm : Str) (i j : Nat) (tb : (PyData → AS → Prop) → TSA) : TSA := fun D s => tb (fun er s1 => onSome (exOf E er) fun p => (p.1 ∈ L ∧ subX p.1 nm = true) ∧ D.nx ⟨(s1.sl.set j (some (.d er))).set i none, s1.cs⟩) D s
section
variable {X : Cx} {B : Bs} {nm n y : Str} {c : Value} {body : List Stmt} {np pos pos' py pn2 ps2 : Pos} {tb : (PyData → AS → Prop) → TSA} {E : ExT} {L : List XN}
theorem sa_tryK (i j : Nat) (hs : X.stack = X.env :: X.outer) (hf : X.env.frame = some X.env.locals) (hN : X.N.Nodup) (hc : Names X nm c) (hx : ∀ n ∈ L, subX n nm = true → PySem.W.exmOne X.K (.ref (E.c n)) c = some true)
    (hb : ∀ (W : PyData → AS → Prop) (pn : List (Addr × Obj)) (xe : Value → Shared → Prop), Takes (X.tr pn xe) (Lx B W) → PassesOwn (model X.prog X.w) X.A X.env xe → SS (X.tr pn xe) B body (tb W))
    (hi : X.N[i]? = some n := by rfl) (hln : X.env.kindOf n = some .local := by rfl) (hj : X.N[j]? = some y := by rfl) (hly : X.env.scope.names.lookup y = some .local := by rfl) (hvn : X.env.scope.names.lookup n = some .local := by rfl) (hd : (n == ("__debug__" : Str)) = false := by decide) (hcd : (n == ("__classdict__" : Str)) = false := by decide)
    (hsw : swapsWith (.Name n pn2) (some (.Name y py)) ps2.line X.env = pure false := by rfl) (hij : i ≠ j := by decide) :
    SA X B (.Try body [.ExceptHandler (some (.Name nm np)) (some n) [.Assign [.Name y py] (.Name n pn2) ps2] pos'] [] [] pos) (tryK E L nm i j tb) := ⟨fun D s h ad F H σ r => by
  refine ws_of (ps_try_keep (tb := fun W D σ H => ∀ pn xe, Takes (X.tr pn xe) W → PassesOwn (model X.prog X.w) X.A X.env xe → WSs (X.tr pn xe) body D σ H) (ts := fun a => tAsg (tVar i) (gName j)) hs hf hN hi hln hc (fun W pn xe tk po => ⟨fun pins sh σ H D I q => q pn xe tk po pins sh I⟩) (fun a oe pn hv => ?_)) (fun pn xe tk po => ?_)
  · exact pss_one (ps_set (i := j) hN hj (.inl hly) (pe_var hi (.inl hvn) hd hcd) hsw (.inr hly))
  · refine (hb _ pn xe (tk.imp fun cls d σ1 H1 hw => ?_) po).run D s h ad F H σ r
    obtain ⟨C, z, ad1, F1, s1, rfl, ha, r1, p, hp, ⟨hL, hsub⟩, q⟩ := hw
    obtain ⟨rfl, rfl⟩ := exOf_err hp
    refine ⟨hx p.1 hL hsub, _, rfl, fun a na hl => ?_⟩
    have hFa : F1 a = none := r1.fh.free na
    have g : Gr F1 H1 (upd F1 a (.ext (ExP (E.c p.1) d a))) (upd H1 a (.ext (ExP (E.c p.1) d a))) := (Gr.refl r1.fh).shut na
    have r2 := r1.gr g
    have hda : Da (upd F1 a (.ext (ExP (E.c p.1) d a))) (errD (E.c p.1) p.2) (.ref a) := Da.err upd_same (ha.mono (same_upd hFa))
    have r3 := r2.keepE (x := .d (errD (E.c p.1) p.2)) (v := .ref a) (w := .ref a) hda i j
    exact ⟨.ref a, by rw [List.getElem?_set_self hl], ad1, _, _, r3, q⟩⟩
end
end Kr
/-! layer A29 -/
namespace Kr
open PySem L2
/-! ## isinstance of errors, their field, raising NoStep -/
/-- what the text says of an error's class -/
structure ExcF (K : PySem.W.Frag) (mg : Str → Option Value) (x : Str) (C : Addr) : Prop where
  g : mg x = some (.ref C)
  k : PySem.W.keepIn K (.ref C) = true
  s : PySem.W.subIn K (.ref C) (.type "BaseException") = some true
  t : PySem.W.typeIn K (.ref C) = some (.type "type")
  i : PySem.W.isClsIn K C = true
  e : ExcC K C
theorem ExcF.raises {X : Cx} {x : Str} {C : Addr} (f : ExcF X.K X.mg x C) : Raises X (.ref C) := raises_own f.s f.t
theorem kit_ref {K : PySem.W.Frag} {t C : Addr} {b : Bool} (h1 : PySem.W.isClsIn K C = true) (h2 : PySem.W.typeIn K (.ref C) = some (.type "type")) (h3 : PySem.W.subIn K (.ref t) (.ref C) = some b) (hne : t = C → b = true) : PySem.W.kitOne K (.ref t) (.ref C) = some b := by
  unfold PySem.W.kitOne
  by_cases e : t = C
  · subst e
    rw [if_pos (by simp), hne rfl]
  · rw [if_neg (by simp [e])]
    show (if ((PySem.W.clsIn K C).isSome && PySem.W.typeIn K (.ref C) == some (.type "type")) = true then PySem.W.subIn K (.ref t) (.ref C) else none) = some b
    have h1' : (PySem.W.clsIn K C).isSome = true := h1
    rw [h1', h2, h3]
    rfl
theorem kit_typ {K : PySem.W.Frag} {t : Addr} {T : String} {b : Bool} (h1 : PySem.W.kitMeta T = true) (h3 : PySem.W.subIn K (.ref t) (.type T) = some b) : PySem.W.kitOne K (.ref t) (.type T) = some b := by
  unfold PySem.W.kitOne
  rw [if_neg (by simp)]
  show (if PySem.W.kitMeta T = true then PySem.W.subIn K (.ref t) (.type T) else none) = some b
  rw [if_pos h1, h3]
theorem exm_of {K : PySem.W.Frag} {C cls : Addr} {b : Bool} (h1 : PySem.W.subIn K (.ref C) (.type "BaseException") = some true) (hi : PySem.W.isClsIn K C = true) (ht : PySem.W.typeIn K (.ref C) = some (.type "type")) (h4 : PySem.W.subIn K (.ref cls) (.ref C) = some b) : PySem.W.exmOne K (.ref cls) (.ref C) = some b := by
  have e1 : (PySem.W.subIn K (.ref C) (.type "BaseException") == some true) = true := by rw [h1] <;> rfl
  have e2 : ((PySem.W.clsIn K C).isSome && PySem.W.typeIn K (.ref C) == some (.type "type")) = true := by
    have hi' : (PySem.W.clsIn K C).isSome = true := hi
    rw [hi', ht] <;> rfl
  show (if (PySem.W.subIn K (.ref C) (.type "BaseException") == some true) = true then (if ((PySem.W.clsIn K C).isSome && PySem.W.typeIn K (.ref C) == some (.type "type")) = true then PySem.W.subIn K (.ref cls) (.ref C) else none) else none) = some b
  rw [if_pos e1, if_pos e2]
  exact h4
section
variable {X : Cx} {B : Bs} {pins : List (Addr × Obj)} {σ : L2.St} {H : Hp} {s : Shared} {a C : Addr} {d : Option Addr}
theorem inst_of (I : Inv X pins σ H s) (h : H a = some (.ext (ExP C d a))) (hd : d = none ∨ ∃ dd fs, d = some dd ∧ H dd = some (.xd fs)) : ∃ oe od, PySem.W.InstAt s.heap a oe C od := by
  have x : ObjOk X.prog X.w H s.heap a (.ext (ExP C d a)) := I.hok a _ h
  obtain ⟨⟨oe, vs, he, hz, hv⟩, _, _⟩ := x
  have hno : PySem.W.notCls oe = true := by unfold PySem.W.notCls; rw [hv] <;> rfl
  rcases hd with rfl | ⟨dd, fs, rfl, hx⟩
  · exact ⟨oe, none, he, hz.1, hno, by rw [hz.2]; trivial⟩
  · have x2 : ObjOk X.prog X.w H s.heap dd (.xd fs) := I.hok dd _ hx
    obtain ⟨mA, hns, _⟩ := x2
    obtain ⟨od, ho, _⟩ := lookIn_ns hns
    exact ⟨oe, some od, he, hz.1, hno, by rw [hz.2]; exact ho⟩
theorem AtOk.dict {F H : Hp} {y : PyData} {d : Option Addr} (k : Same F H) (h : AtOk F y d) : d = none ∨ ∃ dd fs, d = some dd ∧ H dd = some (.xd fs) := by
  rcases h with ⟨_, e⟩ | ⟨dd, i, w, _, e, h2, _⟩
  · exact .inl e
  · exact .inr ⟨dd, _, e, k _ _ h2⟩
theorem clsSome {K : PySem.W.Frag} {D : Addr} (h : PySem.W.hasDictIn K D = true) : (PySem.W.clsIn K D).isSome = true := by
  obtain ⟨cd, hc, _⟩ := PySem.W.any_some h
  rw [hc]; rfl
def rIsX (K : PySem.W.Frag) : List V → Hp → VK → Prop := fun xs H Q => ∃ (a C : Addr) (d : Option Addr) (c : V) (cv : Value) (b : Bool), xs = [.ref a, c] ∧ H a = some (.ext (ExP C d a)) ∧ (d = none ∨ ∃ dd fs, d = some dd ∧ H dd = some (.xd fs)) ∧ (∀ u, RelV c u → u = cv) ∧ ExcC K C ∧ PySem.W.kitOne K (.ref C) cv = some b ∧ Q (.bl b) H
theorem call_isX : CallR X (.builtin "isinstance") (rIsX X.K) := by
  intro pins s σ H xs us Q I r h
  obtain ⟨a, D, d, c, cv, b, rfl, ha, hd, hcv, C, e, q⟩ := h
  cases r with
  | cons rx rr =>
    cases rr with
    | cons rt rr =>
      cases rr
      cases rx
      have ec := hcv _ rt
      subst ec
      obtain ⟨oe, od, J⟩ := inst_of I ha hd
      exact PySem.W.kia_one (PySem.W.kitx_exc (clsSome C.hd) C.hg C.hk C.hs C.ha C.hn C.ht C.hm) I.kIn J e (fun z => nomatch z) fun tk => ⟨.bl b, H, I.kept (t' := tk) fun _ _ z => z, rfl, q⟩
def rIsXT (K : PySem.W.Frag) (cvs : List Value) : List V → Hp → VK → Prop := fun xs H Q => ∃ (a C : Addr) (d : Option Addr) (p : Addr) (cs : List V) (b : Bool), xs = [.ref a, .ref p] ∧ H p = some (.tup cs) ∧ H a = some (.ext (ExP C d a)) ∧ (d = none ∨ ∃ dd fs, d = some dd ∧ H dd = some (.xd fs)) ∧ (∀ us, Vals cs us → us = cvs) ∧ ExcC K C ∧ PySem.W.kitAny K (.ref C) cvs = some b ∧ Q (.bl b) H
theorem call_isXT {cvs : List Value} : CallR X (.builtin "isinstance") (rIsXT X.K cvs) := by
  intro pins s σ H xs us Q I r h
  obtain ⟨a, D, d, p, cs, b, rfl, hp, ha, hd, hcv, C, e, q⟩ := h
  cases r with
  | cons rx rr =>
    cases rr with
    | cons rt rr =>
      cases rr
      cases rx
      cases rt
      obtain ⟨oe, od, J⟩ := inst_of I ha hd
      have x : ObjOk X.prog X.w H s.heap p (.tup cs) := I.hok p _ hp
      obtain ⟨_, its, rv, ht⟩ := x
      have := hcv its rv
      subst this
      obtain ⟨o, ho, hc, n, hdt⟩ := ht
      obtain ⟨c0, d0, dt0, sl0⟩ := o
      dsimp only at hc hdt
      subst hc hdt
      exact PySem.W.kia_tup (PySem.W.kitx_exc (clsSome C.hd) C.hg C.hk C.hs C.ha C.hn C.ht C.hm) I.kIn J ho e (fun z => nomatch z) fun tk => ⟨.bl b, H, I.kept (t' := tk) fun _ _ z => z, rfl, q⟩
end
def AVal.dat? : AVal → Option PyData
  | .d x => some x
  | _ => none
theorem AVal.dat?_of {x : AVal} {d : PyData} (h : x.dat? = some d) : x = .d d := by
  cases x <;> cases h <;> rfl
/-- isinstance(x, nm) of an error x -/
def isiX (E : ExT) (L : List XN) (nm : Str) (ta : TEA) : TEA := fun s Q => ta s fun x s1 => onSome x.dat? fun d => onSome (exOf E d) fun p => p.1 ∈ L ∧ Q (.d (.bool (subX p.1 nm))) s1
def isiXT (E : ExT) (L : List XN) (nms : List Str) (ta : TEA) : TEA := fun s Q => ta s fun x s1 => onSome x.dat? fun d => onSome (exOf E d) fun p => p.1 ∈ L ∧ Q (.d (.bool (nms.any fun nm => subX p.1 nm))) s1
def atX (E : ExT) (ta : TEA) : TEA := fun s Q => ta s fun x s1 => onSome x.dat? fun d => onSome (exOf E d) fun p => p.1 = .step ∧ ∃ z, p.2 = .list [z] ∧ Q (.d z) s1
section
variable {X : Cx} {B : Bs} {E : ExT} {L : List XN} {nm : Str} {e : Expr} {ta : TEA} {q1 q2 pos : Pos} {c : V} {cv : Value}
theorem ea_isiX (hm : X.mg "isinstance" = none) (ha : EA X B e ta) (hcn : PE X (.Name nm pos) (tC c)) (hcv : ∀ u, RelV c u → u = cv) (hC : ∀ n ∈ L, ExcC X.K (E.c n)) (hk : ∀ n ∈ L, PySem.W.kitOne X.K (.ref (E.c n)) cv = some (subX n nm))
    (hg : Gl X "isinstance" := by rfl) (l : Pl X e [.Name nm pos] q2 := by exact ⟨rfl, rfl⟩) (l2 : starEach [.Name nm pos] X.env = [(false, eval (.Name nm pos) X.env)] := by rfl) : EA X B (.Call (.Name "isinstance" q1) [e, .Name nm pos] [] q2) (isiX E L nm ta) := ⟨fun ad F H s σ Q r t =>
  we_of (pe_callB call_isX hg hm (by decide +kernel) (pa_cons pe_we (pa_cons hcn pa_nil l2) l.he) (by decide) (by decide) l.he l.hpl) ((ha.run ad F H s σ _ r t).imp fun v H1 q => by
    obtain ⟨ad1, F1, x, s1, e1, k1, r1, hv2, d, hd, p, hp, hL, q⟩ := q
    have := AVal.dat?_of hd
    subst this
    have hex : ∃ C y, d = errD C y := by
      unfold exOf at hp
      split at hp
      · rename_i C y
        obtain ⟨n, hn, rfl⟩ := Option.map_eq_some_iff.mp hp
        have hd := List.find?_some hn
        have := of_decide_eq_true hd
        exact ⟨E.c n, y, by unfold errD exK; rw [← this]⟩
      · cases hp
    obtain ⟨C, y, rfl⟩ := hex
    obtain ⟨rfl, rfl⟩ := exOf_err hp
    obtain ⟨a, dx, rfl, h1, h2⟩ := Da.ofErr hv2
    exact ⟨a, E.c p.1, dx, c, cv, subX p.1 nm, rfl, r1.fh _ _ h1, AtOk.dict r1.fh h2, hcv, hC _ hL, hk _ hL, (Post.here (x := .d (.bool (subX p.1 nm))) r1 rfl q).up e1 k1⟩)⟩
theorem ex_data {d : PyData} {p : XN × PyData} (hp : exOf E d = some p) : d = errD (E.c p.1) p.2 := by
  unfold exOf at hp
  split at hp
  · rename_i C y
    obtain ⟨n, hn, rfl⟩ := Option.map_eq_some_iff.mp hp
    have hd := List.find?_some hn
    have := of_decide_eq_true hd
    unfold errD exK; rw [← this]
  · cases hp
theorem ea_isiXT {nms : List Str} {cs : List V} {cvs : List Value} {te : Expr} {tt : TE} (hm : X.mg "isinstance" = none) (ha : EA X B e ta) (hcn : PE X te tt) (htt : ∀ σ H Q, (∀ p, H p = none → Q (.ref p) (upd H p (.tup cs))) → tt σ H Q) (hcv : ∀ us, Vals cs us → us = cvs) (hC : ∀ n ∈ L, ExcC X.K (E.c n))
    (hk : ∀ n ∈ L, PySem.W.kitAny X.K (.ref (E.c n)) cvs = some (nms.any fun nm => subX n nm))
    (hg : Gl X "isinstance" := by rfl) (l : Pl X e [te] q2 := by exact ⟨rfl, rfl⟩) (l2 : starEach [te] X.env = [(false, eval te X.env)] := by rfl) : EA X B (.Call (.Name "isinstance" q1) [e, te] [] q2) (isiXT E L nms ta) := ⟨fun ad F H s σ Q r t =>
  we_of (pe_callB (call_isXT (cvs := cvs)) hg hm (by decide +kernel) (pa_cons pe_we (pa_cons hcn pa_nil l2) l.he) (by decide) (by decide) l.he l.hpl) ((ha.run ad F H s σ _ r t).imp fun v H1 q => by
    obtain ⟨ad1, F1, x, s1, e1, k1, r1, hv2, d, hd, p, hp, hL, q⟩ := q
    have := AVal.dat?_of hd
    subst this
    obtain rfl := ex_data hp
    obtain ⟨a, dx, rfl, h1, h2⟩ := Da.ofErr hv2
    refine htt _ _ _ fun pt hpt => ?_
    have g : Gr F1 H1 (upd F1 pt (.tup cs)) (upd H1 pt (.tup cs)) := (Gr.refl r1.fh).shut hpt
    have r2 := r1.gr g
    exact ⟨a, E.c p.1, dx, pt, cs, _, rfl, upd_same, r2.fh _ _ (g.ff _ _ h1), AtOk.dict r2.fh (h2.mono g.ff), hcv, hC _ hL, hk _ hL, (Post.here (x := .d (.bool (nms.any fun nm => subX p.1 nm))) r2 rfl q).up e1 (k1.trans g.ff)⟩)⟩
end
/-! ### NoStep(at): its own __init__ -/
def flatX : AVal → Option PyData
  | .d .none => some .none
  | .d (.int n) => some (.int n)
  | _ => none
def raiseStepA (W : PyData → AS → Prop) (C : Addr) (ta : TEA) : TSA := fun _ s => ta s fun x s1 => onSome (flatX x) fun z => W (errD C (.list [z])) s1
end Kr
/-! layer A30 -/
namespace Kr
open PySem L2
/-! ## facts of the text about errors, gathered -/
theorem fl_nil {p : XN → Prop} : ∀ n ∈ ([] : List XN), p n := fun _ h => nomatch h
theorem fl_cons {p : XN → Prop} {a : XN} {l : List XN} (h : p a) (t : ∀ n ∈ l, p n) : ∀ n ∈ a :: l, p n := fun n m => by
  rcases List.mem_cons.mp m with rfl | m
  · exact h
  · exact t n m
def XN.ix : XN → Nat
  | .house => 0 | .plain => 1 | .order => 2 | .number => 3 | .kind => 4 | .many => 5 | .text => 6 | .row => 7 | .step => 8
theorem XN.ix_inj {a b : XN} (h : a.ix = b.ix) : a = b := by cases a <;> cases b <;> first | rfl | cases h
theorem XN.ix_lt (a : XN) : a.ix < 9 := by cases a <;> decide
def mkE (l : List Addr) (hl : l.length = 9) (nd : l.Nodup) : ExT where
  c n := l.getD n.ix 0
  inj a b h := XN.ix_inj (by
    have ha : a.ix < l.length := by rw [hl]; exact a.ix_lt
    have hb : b.ix < l.length := by rw [hl]; exact b.ix_lt
    rw [List.getD_eq_getElem?_getD, List.getD_eq_getElem?_getD, List.getElem?_eq_getElem ha, List.getElem?_eq_getElem hb] at h
    exact (List.getElem_inj nd).mp h)
theorem kitAny_nil {K : PySem.W.Frag} {t : Value} {f : Str → Bool} : PySem.W.kitAny K t [] = some (([] : List Str).any f) := rfl
theorem kitAny_cons {K : PySem.W.Frag} {t cv : Value} {cvs : List Value} {nm : Str} {nms : List Str} {f : Str → Bool} (h0 : PySem.W.kitOne K t cv = some (f nm)) (h : PySem.W.kitAny K t cvs = some (nms.any f)) : PySem.W.kitAny K t (cv :: cvs) = some ((nm :: nms).any f) := by
  unfold PySem.W.kitAny
  rw [h0]
  cases hf : f nm with
  | true => simp [hf]
  | false => simp only [List.any_cons, hf, Bool.false_or]; exact h
theorem vals_refs : ∀ {as : List Addr} {us : List Value}, Vals (as.map V.ref) us → us = as.map Value.ref
  | [], _, .nil => rfl
  | a :: as, _, .cons h t => by
    obtain rfl := (show _ = Value.ref a from h)
    rw [vals_refs t]; rfl
theorem exc_mk {K : PySem.W.Frag} {D : Addr} (hg : PySem.W.findIn K (.ref D) "__getattribute__" = some (some (.builtin "BaseException.__getattribute__"))) (hk : PySem.W.findIn K (.ref D) "__getattr__" = some none) (hs : PySem.W.subIn K (.ref D) (.type "BaseException") = some true) (hd : PySem.W.hasDictIn K D = true)
    (ha : PySem.W.findIn K (.ref D) "__class__" = some (some (.builtin "object.__class__"))) (hn : PySem.W.specialIn K (.builtin "object.__class__") "__get__" = some (some (.builtin "getset_descriptor.__get__"))) (ht : PySem.W.takesIn K (.builtin "object.__class__") = some true) (hm : PySem.W.mroIn K D (.type "object") = some true) : ExcC K D := ⟨hg, hk, hs, hd, ha, hn, ht, hm⟩
abbrev veTail' : List Value := [.type "ValueError", .type "Exception", .type "BaseException", .type "object"]
end Kr
/-! layer A31 -/
namespace Kr
open PySem L2
/-! ## count and index in lists of truths, numbers, texts -/
def flatP : PyData → Bool
  | .none => true
  | .bool _ => true
  | .int _ => true
  | .str _ => true
  | _ => false
def toV : PyData → V
  | .bool b => .bl b
  | .int i => .int i
  | .str x => .str x
  | _ => .non
def eqP (d e : PyData) : Bool := eqV (toV d) (toV e)
def bools? : List PyData → Option (List Bool)
  | [] => some []
  | .bool b :: r => (bools? r).map (b :: ·)
  | _ :: _ => none
def countBA (x : AVal) (xs : List AVal) : TEA := fun s Q => one (fun y => onSome (listOf s x) fun ds => onSome (bools? ds) fun bs => onSome y.bool? fun z => Q (.d (.int (bs.count z : Nat))) s) xs
def indexA (x : AVal) (xs : List AVal) : TEA := fun s Q => one (fun y => onSome (listOf s x) fun ds => onSome y.dat? fun z => ds.all flatP = true ∧ flatP z = true ∧ onSome (ds.findIdx? fun d => eqP d z) fun j => Q (.d (.int (j : Nat))) s) xs
/-! ## tuple(list) -/
def tupleA (xs : List AVal) : TEA := fun s Q => one (fun x => onSome (listOf s x) fun ds => Q (.d (.tuple ds)) s) xs
section
variable {X : Cx} {B : Bs}
theorem c_tuple : CalA X B (.type "tuple") tupleA := fun ad F H s σ xs us Q r hp t => by
  obtain ⟨x, u, rfl, rfl, hx, ds, e, q⟩ := one_ok t hp
  obtain ⟨l, vs, rfl, h1, h2⟩ := hx.list r e
  exact ⟨_, call_tuple_of, l, vs, rfl, .inl ⟨SqL.of h1, fun p hp => Post.newD (d := .tuple ds) r hp ⟨p, vs, rfl, upd_same, h2.mono (same_upd (r.fh.free hp))⟩ q⟩⟩
end
end Kr
/-! layer A32 -/
namespace Kr
open PySem L2 PySem.Spec PyProof.Rows
/-! ## repr of any data (dicts of flat things) -/
mutual
def rpD : PyData → Bool
  | .list ds => rpAll ds
  | .tuple ds => rpAll ds
  | .dict kvs => kvs.all fun p => flatP p.1 && flatP p.2
  | _ => true
def rpAll : List PyData → Bool
  | [] => true
  | d :: ds => rpD d && rpAll ds
end
section
variable {P : Program} {w : World} {F H : Hp} {h : Heap}
theorem flat_repr {d : PyData} {v : V} {u : Value} (hd : Da F d v) (hu : RelV v u) (hf : flatP d = true) (hs : d.showable = true) (hz : d.shown.length ≤ sizeLine) : Reads h u d [] ∧ ∀ as n, ReprK P w as h n u d.shown := by
  cases d with
  | none =>
    obtain rfl := (show v = .non from hd)
    obtain rfl := (show u = Value.none from hu)
    exact ⟨.none, fun as n => by simp only [PyData.shown]; exact .of_is ReprIs.none _ _ _⟩
  | bool b =>
    obtain rfl := (show v = .bl b from hd)
    obtain rfl := (show u = Value.bool b from hu)
    exact ⟨.bool b, fun as n => by simp only [PyData.shown]; exact .of_is (ReprIs.bool b) _ _ _⟩
  | int i =>
    obtain rfl := (show v = .int i from hd)
    obtain ⟨t, rfl⟩ := (show ∃ t, u = Value.int i t from hu)
    exact ⟨.int i t, fun as n => by simp only [PyData.shown]; exact .of_is (ReprIs.int t (by simpa [PyData.showable] using hs)) _ _ _⟩
  | str x =>
    obtain rfl := (show v = .str x from hd)
    obtain ⟨t, rfl⟩ := (show ∃ t, u = Value.str x t from hu)
    exact ⟨.str x t, fun as n => by simp only [PyData.shown]; exact .of_is (ReprIs.str x t (by simpa only [PyData.shown] using hz)) _ _ _⟩
  | _ => cases hf
theorem shownKv_le : ∀ {kvs : List (PyData × PyData)} {p : PyData × PyData}, p ∈ kvs → ∃ t ∈ PyData.shownKv kvs, p.1.shown.length ≤ t.length ∧ p.2.shown.length ≤ t.length
  | (k, x) :: r, p, m => by
    rcases List.mem_cons.mp m with rfl | m
    · exact ⟨_, by simp only [PyData.shownKv]; exact List.mem_cons_self .., by show k.shown.length ≤ _; rw [strLen_append, strLen_append]; omega, by show x.shown.length ≤ _; rw [strLen_append, strLen_append]; omega⟩
    · obtain ⟨t, h1, h2⟩ := shownKv_le m
      exact ⟨t, by simp only [PyData.shownKv]; exact List.mem_cons_of_mem _ h1, h2⟩
theorem key_val {k : PyData} {k' : Key} {e : Value} (hk : KeyD k k') (he : keyIs k' e = true) : ∃ v, Da F k v ∧ RelV v e := by
  rcases keyIs_shape he with ⟨i, t, rfl, rfl⟩ | ⟨x, t, rfl, rfl⟩
  · cases k <;> simp only [KeyD] at hk
    subst hk
    exact ⟨.int _, rfl, t, rfl⟩
  · cases k <;> simp only [KeyD] at hk
    subst hk
    exact ⟨.str _, rfl, t, rfl⟩
theorem entries_repr : ∀ {kvs : List (PyData × PyData)} {es : List (Key × V)} {vs : List (Key × Value)} {ds : List DictEntry}, DaKV F kvs es → KV es vs → Pairs (mixKind P w) ds vs → (kvs.all fun p => flatP p.1 && flatP p.2) = true → PyData.showableKv kvs = true → (∀ p ∈ kvs, p.1.shown.length ≤ sizeLine ∧ p.2.shown.length ≤ sizeLine) →
    ReadsAll h (ds.map (·.key)) (kvs.map (·.1)) [] ∧ ReadsAll h (ds.map (·.val)) (kvs.map (·.2)) [] ∧ ∀ as n, ReprEntriesK P w as h n ds (PyData.shownKv kvs)
  | [], es, vs, ds, hd, hv, hp, _, _, _ => by
    obtain rfl := (show es = [] from hd)
    cases hv
    cases hp
    exact ⟨.nil, .nil, fun as n => by simp only [PyData.shownKv]; exact .nil⟩
  | (k, x) :: kvs, es, vs, ds, hd, hv, hp, hf, hs, hz => by
    obtain ⟨k', v, r, rfl, hk, hx, ht⟩ := (show ∃ k' v r, es = (k', v) :: r ∧ KeyD k k' ∧ Da F x v ∧ DaKV F kvs r from hd)
    cases hv with
    | cons h1 h2 =>
      rename_i q vs'
      cases hp with
      | cons g1 g2 g3 =>
        rename_i e es'
        simp only [List.all_cons, Bool.and_eq_true] at hf
        have hs' : (k.showable = true ∧ x.showable = true) ∧ PyData.showableKv kvs = true := by simpa [PyData.showableKv] using hs
        obtain ⟨z1, z2⟩ := hz _ (List.mem_cons_self ..)
        obtain ⟨a1, a2, a3⟩ := entries_repr ht h2 g3 hf.2 hs'.2 fun p hp => hz p (List.mem_cons_of_mem _ hp)
        have hkq : keyIs k' e.key = true := by
          have := g1
          rw [← h1.1] at this
          exact this
        obtain ⟨kv, hkv, hrk⟩ := key_val (F := F) hk hkq
        obtain ⟨r1, k1⟩ := flat_repr (P := P) (w := w) (h := h) hkv hrk hf.1.1 hs'.1.1 z1
        obtain ⟨r2, k2⟩ := flat_repr (P := P) (w := w) (h := h) hx (u := e.val) (by rw [g2]; exact h1.2) hf.1.2 hs'.1.2 z2
        exact ⟨ReadsAll.cons r1 a1, ReadsAll.cons r2 a2, fun as n => by simp only [PyData.shownKv]; exact .cons (k1 as n) (k2 as n) (a3 as n)⟩
/-- what stands at an address -/
inductive BoxAt (P : Program) (w : World) (h : Heap) (a : Addr) : PyData → Prop
  | lst {o : Obj} {vs : Array Value} {n : Nat} {ds : List PyData} {bs : List Addr} : h.get? a = some o → o.cls = .type "list" → o.data = .seq vs n → ReadAtMost h (PyData.depthAll ds) bs → a ∉ bs → ReprAllK P w bs h (PyData.depthAll ds) vs.toList (PyData.shownAll ds) → BoxAt P w h a (.list ds)
  | tup {o : Obj} {vs : Array Value} {n : Nat} {ds : List PyData} {bs : List Addr} : h.get? a = some o → o.cls = .type "tuple" → o.data = .seq vs n → ReadAtMost h (PyData.depthAll ds) bs → a ∉ bs → ReprAllK P w bs h (PyData.depthAll ds) vs.toList (PyData.shownAll ds) → BoxAt P w h a (.tuple ds)
  | dct {o : Obj} {es : Array DictEntry} {n : Nat} {kvs : List (PyData × PyData)} : h.get? a = some o → o.cls = .type "dict" → o.data = .dict es n → (a == sysModules) = false → (∀ as n, ReprEntriesK P w as h n es.toList (PyData.shownKv kvs)) → BoxAt P w h a (.dict kvs)
theorem BoxAt.repr {a : Addr} {d : PyData} (b : BoxAt P w h a d) : ∃ bs, (∀ c ∈ bs, c = a ∨ ∃ d' as, Reads h (.ref c) d' as ∧ d'.depth < d.depth) ∧ ReprK P w bs h d.depth (.ref a) d.shown := by
  cases b with
  | lst h1 h2 h3 h4 h5 h6 =>
    rename_i o vs n ds bs
    refine ⟨a :: bs, fun c hc => ?_, ?_⟩
    · rcases List.mem_cons.mp hc with e | hc
      · exact .inl e
      · obtain ⟨d', as, r, hd⟩ := h4 c hc
        exact .inr ⟨d', as, r, by simp only [PyData.depth]; omega⟩
    · simp only [PyData.depth, PyData.shown]
      obtain ⟨l⟩ := vs
      cases l with
      | nil =>
        have := h6.length_eq
        cases hq : PyData.shownAll ds with
        | nil => rw [listText_nil]; exact ReprK.listEmpty h1 h2 h3
        | cons _ _ => rw [hq] at this; simp at this
      | cons x l => exact ReprK.list h1 h2 h3 h5 (by simpa using h6.length_eq) fun i y e => h6.item i y (by simpa using e)
  | tup h1 h2 h3 h4 h5 h6 =>
    rename_i o vs n ds bs
    refine ⟨a :: bs, fun c hc => ?_, ?_⟩
    · rcases List.mem_cons.mp hc with e | hc
      · exact .inl e
      · obtain ⟨d', as, r, hd⟩ := h4 c hc
        exact .inr ⟨d', as, r, by simp only [PyData.depth]; omega⟩
    · simp only [PyData.depth, PyData.shown]
      exact ReprK.tuple h1 h2 h3 h5 h6
  | dct h1 h2 h3 h4 h5 =>
    rename_i o es n kvs
    refine ⟨[a], fun c hc => .inl (List.mem_singleton.mp hc), ?_⟩
    simp only [PyData.depth, PyData.shown]
    exact ReprK.dict h1 h2 h3 h4 (fun z => nomatch z) (h5 [] _)
def Rp (P : Program) (w : World) (h : Heap) (u : Value) (d : PyData) : Prop := (flatP d = true ∨ ∃ a, u = .ref a ∧ BoxAt P w h a d) ∧ ∃ as bs, Reads h u d as ∧ ReadAtMost h d.depth bs ∧ ReprK P w bs h d.depth u d.shown
theorem Rp.box {a : Addr} {d : PyData} {as : List Addr} (r : Reads h (.ref a) d as) (b : BoxAt P w h a d) : Rp P w h (.ref a) d := by
  obtain ⟨bs, h1, h2⟩ := b.repr
  refine ⟨.inr ⟨a, rfl, b⟩, as, bs, r, fun c hc => ?_, h2⟩
  rcases h1 c hc with rfl | ⟨d', as', r', hd⟩
  · exact ⟨d, as, r, Nat.le_refl _⟩
  · exact ⟨d', as', r', by omega⟩
theorem da_repr (hok : HOk P w H h) (sF : Same F H) : (d : PyData) → {v : V} → {u : Value} → Da F d v → RelV v u → rpD d = true → d.showable = true → d.shown.length ≤ sizeLine → Rp P w h u d
  | d, v, u, hd, hu, hf, hs, hz => by
    have flat : flatP d = true → Rp P w h u d := fun f => by
      obtain ⟨r, k⟩ := flat_repr (P := P) (w := w) (h := h) hd hu f hs hz
      exact ⟨.inl f, [], [], r, fun _ h => (nomatch h), k _ _⟩
    have all : ∀ {ds : List PyData}, (∀ d' ∈ ds, sizeOf d' < sizeOf d) → ∀ {vs : List V} {us : List Value}, DaAll F ds vs → Vals vs us → rpAll ds = true → PyData.showableAll ds = true → (∀ t ∈ PyData.shownAll ds, t.length ≤ sizeLine) →
        ∃ as bs, ReadsAll h us ds as ∧ ReadAtMost h (PyData.depthAll ds) bs ∧ ReprAllK P w bs h (PyData.depthAll ds) us (PyData.shownAll ds) := by
      intro ds
      induction ds with
      | nil =>
        intro _ vs us h1 h2 _ _ _
        obtain rfl := (show vs = [] from h1)
        cases h2
        exact ⟨[], [], .nil, fun _ h => (nomatch h), by simp only [PyData.shownAll]; exact .nil⟩
      | cons x ds ih =>
        intro hlt vs us h1 h2 g1 g2 g3
        obtain ⟨v', r, rfl, h3, h4⟩ := (show ∃ v r, vs = v :: r ∧ Da F x v ∧ DaAll F ds r from h1)
        cases h2 with
        | cons h5 h6 =>
          have g1' : rpD x = true ∧ rpAll ds = true := by simpa [rpAll] using g1
          have g2' : x.showable = true ∧ PyData.showableAll ds = true := by simpa [PyData.showableAll] using g2
          obtain ⟨as2, bs2, a1, a2, a3⟩ := ih (fun d' hd' => hlt d' (List.mem_cons_of_mem _ hd')) h4 h6 g1'.2 g2'.2 fun t ht => g3 t (by simp only [PyData.shownAll]; exact List.mem_cons_of_mem _ ht)
          have : sizeOf x < sizeOf d := hlt x (List.mem_cons_self ..)
          obtain ⟨_, as1, bs1, b1, b2, b3⟩ := da_repr hok sF x h3 h5 g1'.1 g2'.1 (g3 _ (by simp only [PyData.shownAll]; exact List.mem_cons_self ..))
          refine ⟨_, bs1 ++ bs2, ReadsAll.cons b1 a1, ?_, ?_⟩
          · simp only [PyData.depthAll]
            exact (b2.mono (Nat.le_max_left _ _)).append (a2.mono (Nat.le_max_right _ _))
          · simp only [PyData.depthAll, PyData.shownAll]
            exact .cons ((b3.more fun c hc => List.mem_append_left _ hc).level_le (Nat.le_max_left _ _)) (a3.more_le (fun c hc => List.mem_append_right _ hc) (Nat.le_max_right _ _))
    cases d with
    | none => exact flat rfl
    | bool b => exact flat rfl
    | int i => exact flat rfl
    | str x => exact flat rfl
    | list ds =>
      obtain ⟨a, vs, rfl, h1, h2⟩ := hd
      obtain rfl := (show u = Value.ref a from hu)
      obtain ⟨_, its, n, rv, ho⟩ := (show vs.length ≤ sizeLine ∧ ∃ (its : List Value) (n : Nat), Vals vs its ∧ h.get? a = some { cls := .type "list", data := .seq its.toArray n } from hok a _ (sF _ _ h1))
      have hz' : (listText (PyData.shownAll ds)).length ≤ sizeLine := by simpa only [PyData.shown] using hz
      obtain ⟨as, bs, a1, a2, a3⟩ := all (fun d' hd' => by have := List.sizeOf_lt_of_mem hd'; simp only [PyData.list.sizeOf_spec]; omega) h2 rv (by simpa [rpD] using hf) (by simpa [PyData.showable] using hs) fun t ht => Nat.le_trans (listText_mem_le ht) hz'
      have r : Reads h (.ref a) (.list ds) (a :: as) := .list ho rfl rfl (by simpa using a1)
      exact Rp.box r (.lst ho rfl rfl a2 (not_mem_of_deeper r (by simp only [PyData.depth]; omega) a2) (by simpa using a3))
    | tuple ds =>
      obtain ⟨a, vs, rfl, h1, h2⟩ := hd
      obtain rfl := (show u = Value.ref a from hu)
      obtain ⟨_, its, rv, o, ho, hc, n, hdt⟩ := (show vs.length ≤ sizeLine ∧ ∃ its : List Value, Vals vs its ∧ PyProof.Rows.IsTup h a its.toArray from hok a _ (sF _ _ h1))
      have hz' : (tupleText (PyData.shownAll ds)).length ≤ sizeLine := by simpa only [PyData.shown] using hz
      obtain ⟨as, bs, a1, a2, a3⟩ := all (fun d' hd' => by have := List.sizeOf_lt_of_mem hd'; simp only [PyData.tuple.sizeOf_spec]; omega) h2 rv (by simpa [rpD] using hf) (by simpa [PyData.showable] using hs) fun t ht => Nat.le_trans (tupleText_mem_le ht) hz'
      have r : Reads h (.ref a) (.tuple ds) as := .tuple ho hc hdt (by simpa using a1)
      exact Rp.box r (.tup ho hc hdt a2 (not_mem_of_deeper r (by simp only [PyData.depth]; omega) a2) (by simpa using a3))
    | dict kvs =>
      have hf' : (kvs.all fun p => flatP p.1 && flatP p.2) = true := by simpa only [rpD] using hf
      have nx : noExK kvs = true := by
        cases kvs with
        | nil => rfl
        | cons p r =>
          obtain ⟨k, x⟩ := p
          cases k with
          | none =>
            exfalso
            rcases (show (∃ b es, v = .ref b ∧ Rd F b (.dK es) ∧ DaKV F ((.none, x) :: r) es) ∨ ExV F ((.none, x) :: r) v from hd) with ⟨b, es, _, _, h3⟩ | ⟨a, C, dx, y, e, _⟩
            · obtain ⟨k', v', r', _, hk, _⟩ := (show ∃ k' v' r', es = (k', v') :: r' ∧ KeyD .none k' ∧ Da F x v' ∧ DaKV F r r' from h3)
              cases k' <;> exact hk.elim
            · have e2 := congrArg (fun l : List (PyData × PyData) => l.head?.map (·.2)) e
              have e3 : x = .tuple [.int C, y] := by simpa [exK] using e2
              subst e3
              simp [flatP] at hf'
          | _ => rfl
      obtain ⟨a, es, rfl, h1, h2⟩ := Da.dict hd nx
      obtain rfl := (show u = Value.ref a from hu)
      obtain ⟨_, hsys, vs, hv, o, ds, ep, ho, hc, hdt, hko, hpr, hnd⟩ := (Rd.up sF h1).ok hok
      have hz' : (dictText (PyData.shownKv kvs)).length ≤ sizeLine := by simpa only [PyData.shown] using hz
      obtain ⟨a1, a2, a3⟩ := entries_repr (P := P) (w := w) (h := h) h2 hv hpr hf' (by simpa only [PyData.showable] using hs) fun p hp => by
        obtain ⟨t, ht, l1, l2⟩ := shownKv_le hp
        have := dictText_mem_le ht
        exact ⟨by omega, by omega⟩
      exact Rp.box (.dict ho hc.1 hdt a1 a2) (.dct ho hc.1 hdt hsys a3)
termination_by d => sizeOf d
end
structure RpOk (d : PyData) : Prop where
  p : rpD d = true
  s : d.showable = true
  n : d.depth ≤ 60
  z : d.shown.length ≤ sizeLine
def reprXA (xs : List AVal) : TEA := fun s Q => one (fun x => onSome x.dat? fun d => RpOk d ∧ Q (.d (.str d.shown)) s) xs
end Kr
/-! layer A33 -/
namespace Kr
open PySem L2
/-! ## the simp set for errors -/
theorem sx_house_NoHouse : subX .house "NoHouse" = true := by decide +kernel
theorem sx_house_NoPlain : subX .house "NoPlain" = false := by decide +kernel
theorem sx_house_NoOrder : subX .house "NoOrder" = false := by decide +kernel
theorem sx_house_NoNumber : subX .house "NoNumber" = false := by decide +kernel
theorem sx_house_NoKind : subX .house "NoKind" = false := by decide +kernel
theorem sx_house_TooMany : subX .house "TooMany" = false := by decide +kernel
theorem sx_house_NoText : subX .house "NoText" = false := by decide +kernel
theorem sx_house_NoRow : subX .house "NoRow" = false := by decide +kernel
theorem sx_house_NoStep : subX .house "NoStep" = false := by decide +kernel
theorem sx_house_KeyroomError : subX .house "KeyroomError" = true := by decide +kernel
theorem sx_house_ValueError : subX .house "ValueError" = true := by decide +kernel
theorem sx_house_KeyError : subX .house "KeyError" = false := by decide +kernel
theorem sx_plain_NoHouse : subX .plain "NoHouse" = false := by decide +kernel
theorem sx_plain_NoPlain : subX .plain "NoPlain" = true := by decide +kernel
theorem sx_plain_NoOrder : subX .plain "NoOrder" = false := by decide +kernel
theorem sx_plain_NoNumber : subX .plain "NoNumber" = false := by decide +kernel
theorem sx_plain_NoKind : subX .plain "NoKind" = false := by decide +kernel
theorem sx_plain_TooMany : subX .plain "TooMany" = false := by decide +kernel
theorem sx_plain_NoText : subX .plain "NoText" = false := by decide +kernel
theorem sx_plain_NoRow : subX .plain "NoRow" = false := by decide +kernel
theorem sx_plain_NoStep : subX .plain "NoStep" = false := by decide +kernel
theorem sx_plain_KeyroomError : subX .plain "KeyroomError" = true := by decide +kernel
theorem sx_plain_ValueError : subX .plain "ValueError" = true := by decide +kernel
theorem sx_plain_KeyError : subX .plain "KeyError" = false := by decide +kernel
theorem sx_order_NoHouse : subX .order "NoHouse" = false := by decide +kernel
theorem sx_order_NoPlain : subX .order "NoPlain" = false := by decide +kernel
theorem sx_order_NoOrder : subX .order "NoOrder" = true := by decide +kernel
theorem sx_order_NoNumber : subX .order "NoNumber" = false := by decide +kernel
theorem sx_order_NoKind : subX .order "NoKind" = false := by decide +kernel
theorem sx_order_TooMany : subX .order "TooMany" = false := by decide +kernel
theorem sx_order_NoText : subX .order "NoText" = false := by decide +kernel
theorem sx_order_NoRow : subX .order "NoRow" = false := by decide +kernel
theorem sx_order_NoStep : subX .order "NoStep" = false := by decide +kernel
theorem sx_order_KeyroomError : subX .order "KeyroomError" = true := by decide +kernel
theorem sx_order_ValueError : subX .order "ValueError" = true := by decide +kernel
theorem sx_order_KeyError : subX .order "KeyError" = false := by decide +kernel
theorem sx_number_NoHouse : subX .number "NoHouse" = false := by decide +kernel
theorem sx_number_NoPlain : subX .number "NoPlain" = false := by decide +kernel
theorem sx_number_NoOrder : subX .number "NoOrder" = false := by decide +kernel
theorem sx_number_NoNumber : subX .number "NoNumber" = true := by decide +kernel
theorem sx_number_NoKind : subX .number "NoKind" = false := by decide +kernel
theorem sx_number_TooMany : subX .number "TooMany" = false := by decide +kernel
theorem sx_number_NoText : subX .number "NoText" = false := by decide +kernel
theorem sx_number_NoRow : subX .number "NoRow" = false := by decide +kernel
theorem sx_number_NoStep : subX .number "NoStep" = false := by decide +kernel
theorem sx_number_KeyroomError : subX .number "KeyroomError" = true := by decide +kernel
theorem sx_number_ValueError : subX .number "ValueError" = true := by decide +kernel
theorem sx_number_KeyError : subX .number "KeyError" = false := by decide +kernel
theorem sx_kind_NoHouse : subX .kind "NoHouse" = false := by decide +kernel
theorem sx_kind_NoPlain : subX .kind "NoPlain" = false := by decide +kernel
theorem sx_kind_NoOrder : subX .kind "NoOrder" = false := by decide +kernel
theorem sx_kind_NoNumber : subX .kind "NoNumber" = false := by decide +kernel
theorem sx_kind_NoKind : subX .kind "NoKind" = true := by decide +kernel
theorem sx_kind_TooMany : subX .kind "TooMany" = false := by decide +kernel
theorem sx_kind_NoText : subX .kind "NoText" = false := by decide +kernel
theorem sx_kind_NoRow : subX .kind "NoRow" = false := by decide +kernel
theorem sx_kind_NoStep : subX .kind "NoStep" = false := by decide +kernel
theorem sx_kind_KeyroomError : subX .kind "KeyroomError" = true := by decide +kernel
theorem sx_kind_ValueError : subX .kind "ValueError" = true := by decide +kernel
theorem sx_kind_KeyError : subX .kind "KeyError" = false := by decide +kernel
theorem sx_many_NoHouse : subX .many "NoHouse" = false := by decide +kernel
theorem sx_many_NoPlain : subX .many "NoPlain" = false := by decide +kernel
theorem sx_many_NoOrder : subX .many "NoOrder" = false := by decide +kernel
theorem sx_many_NoNumber : subX .many "NoNumber" = false := by decide +kernel
theorem sx_many_NoKind : subX .many "NoKind" = false := by decide +kernel
theorem sx_many_TooMany : subX .many "TooMany" = true := by decide +kernel
theorem sx_many_NoText : subX .many "NoText" = false := by decide +kernel
theorem sx_many_NoRow : subX .many "NoRow" = false := by decide +kernel
theorem sx_many_NoStep : subX .many "NoStep" = false := by decide +kernel
theorem sx_many_KeyroomError : subX .many "KeyroomError" = true := by decide +kernel
theorem sx_many_ValueError : subX .many "ValueError" = true := by decide +kernel
theorem sx_many_KeyError : subX .many "KeyError" = false := by decide +kernel
theorem sx_text_NoHouse : subX .text "NoHouse" = false := by decide +kernel
theorem sx_text_NoPlain : subX .text "NoPlain" = false := by decide +kernel
theorem sx_text_NoOrder : subX .text "NoOrder" = false := by decide +kernel
theorem sx_text_NoNumber : subX .text "NoNumber" = false := by decide +kernel
theorem sx_text_NoKind : subX .text "NoKind" = false := by decide +kernel
theorem sx_text_TooMany : subX .text "TooMany" = false := by decide +kernel
theorem sx_text_NoText : subX .text "NoText" = true := by decide +kernel
theorem sx_text_NoRow : subX .text "NoRow" = false := by decide +kernel
theorem sx_text_NoStep : subX .text "NoStep" = false := by decide +kernel
theorem sx_text_KeyroomError : subX .text "KeyroomError" = true := by decide +kernel
theorem sx_text_ValueError : subX .text "ValueError" = true := by decide +kernel
theorem sx_text_KeyError : subX .text "KeyError" = false := by decide +kernel
theorem sx_row_NoHouse : subX .row "NoHouse" = false := by decide +kernel
theorem sx_row_NoPlain : subX .row "NoPlain" = false := by decide +kernel
theorem sx_row_NoOrder : subX .row "NoOrder" = false := by decide +kernel
theorem sx_row_NoNumber : subX .row "NoNumber" = false := by decide +kernel
theorem sx_row_NoKind : subX .row "NoKind" = false := by decide +kernel
theorem sx_row_TooMany : subX .row "TooMany" = false := by decide +kernel
theorem sx_row_NoText : subX .row "NoText" = false := by decide +kernel
theorem sx_row_NoRow : subX .row "NoRow" = true := by decide +kernel
theorem sx_row_NoStep : subX .row "NoStep" = false := by decide +kernel
theorem sx_row_KeyroomError : subX .row "KeyroomError" = true := by decide +kernel
theorem sx_row_ValueError : subX .row "ValueError" = true := by decide +kernel
theorem sx_row_KeyError : subX .row "KeyError" = false := by decide +kernel
theorem sx_step_NoHouse : subX .step "NoHouse" = false := by decide +kernel
theorem sx_step_NoPlain : subX .step "NoPlain" = false := by decide +kernel
theorem sx_step_NoOrder : subX .step "NoOrder" = false := by decide +kernel
theorem sx_step_NoNumber : subX .step "NoNumber" = false := by decide +kernel
theorem sx_step_NoKind : subX .step "NoKind" = false := by decide +kernel
theorem sx_step_TooMany : subX .step "TooMany" = false := by decide +kernel
theorem sx_step_NoText : subX .step "NoText" = false := by decide +kernel
theorem sx_step_NoRow : subX .step "NoRow" = false := by decide +kernel
theorem sx_step_NoStep : subX .step "NoStep" = true := by decide +kernel
theorem sx_step_KeyroomError : subX .step "KeyroomError" = true := by decide +kernel
theorem sx_step_ValueError : subX .step "ValueError" = true := by decide +kernel
theorem sx_step_KeyError : subX .step "KeyError" = false := by decide +kernel
theorem dat?_d {x : PyData} : (AVal.d x).dat? = some x := rfl
theorem exOf_errE {E : ExT} {n : XN} {y : PyData} : exOf E (errD (E.c n) y) = some (n, y) := exOf_exD
theorem flatX_int {n : Int} : flatX (.d (.int n)) = some (.int n) := rfl
theorem flatX_none : flatX (.d .none) = some .none := rfl
theorem bools?_nil : bools? [] = some [] := rfl
theorem bools?_cons {b : Bool} {r : List PyData} : bools? (.bool b :: r) = (bools? r).map (b :: ·) := rfl
theorem noneV_err {C : Addr} {y : PyData} : noneV (.d (errD C y)) = some false := rfl
end Kr
/-! layer A34 -/
namespace Kr
open PySem L2
/-! ## a comprehension whose things are our own: they go into one tree -/
section
variable {X : Cx} {B : Bs} {σ : St} {F H : Hp} {elt tg iter c : Expr} {scope : Scope} {pos spos py : Pos} {own : List (Str × Nat)} {y : Str} {ti : TIO} {g : TGA} {tt : TTA} {te : TEA} {ks vs : List Nat}
theorem paired_snoc {α β : Type} {R : α → β → Prop} : ∀ {xs : List α} {ys : List β} {x : α} {y : β}, Paired R xs ys → R x y → Paired R (xs ++ [x]) (ys ++ [y])
  | _, _, _, _, .nil, h => .cons h .nil
  | _, _, _, _, .cons a t, h => .cons a (paired_snoc t h)
end
end Kr
/-! layer A35 -/
/-! layer A36 -/
namespace Kr
open PySem L2
/-! ## a call that takes things of our own as they stand, and tells a bare thing -/
def bareD : PyData → Bool
  | .none => true
  | .bool _ => true
  | .int _ => true
  | .str _ => true
  | _ => false
end Kr
/-! layer A37 -/
/-! layer A38 -/
namespace Kr
open PySem L2
/-! ## dicts keyed by tuples: nodes of trees -/
def keyOf1 : PyData → Option Key
  | .int i => some (.inl i)
  | .str x => some (.inr x)
  | _ => none
def keysOf1 : List PyData → Option (List Key)
  | [] => some []
  | d :: ds => (keyOf1 d).bind fun k => (keysOf1 ds).map (k :: ·)
def keyTd : AVal → Option (List Key)
  | .d (.tuple ds) => keysOf1 ds
  | _ => none
def dtN : Option (Nat × List Nat × Kd × Addr × List Tr) → Option (Nat × List Nat × List (List Key) × Addr × List Tr)
  | some (n, pt, .dctT ks, q, ts) => some (n, pt, ks, q, ts)
  | _ => none
def dtAt (s : AS) (x : AVal) : Option (Nat × List Nat × List (List Key) × Addr × List Tr) := dtN (nodeAt s x)
section
variable {X : Cx} {B : Bs} {ad : List Addr} {F H : Hp} {s : AS} {σ : St} {x y : AVal} {u v : V} {o e value : Expr} {pos tpos : Pos} {ta tb tc : TEA}
def memT {κ : Type} [DecidableEq κ] (k : κ) (ks : List κ) : Bool := ks.any fun j => decide (j = k)
theorem val_zip_some {κ : Type} [DecidableEq κ] {k : κ} : ∀ {ks : List κ} {vs : List V}, ks.length = vs.length → (valV (ks.zip vs) k).isSome = memT k ks
  | [], vs, _ => rfl
  | j :: ks, [], h => by cases h
  | j :: ks, v :: vs, h => by
    rw [List.zip_cons_cons, ← valV_any]
    unfold memT
    rw [List.any_cons, List.any_cons, valV_any, val_zip_some (by simpa using h)]
    rfl
theorem putK_new {κ : Type} [DecidableEq κ] {k : κ} {ks : List κ} {vs : List V} {v : V} (h : ks.length = vs.length) (hk : memT k ks = false) : putK (ks.zip vs) k v = (ks ++ [k]).zip (vs ++ [v]) := by
  unfold putK
  rw [valV_any, val_zip_some h, hk, if_neg (by decide), List.zip_append h]
  rfl
end
end Kr
/-! layer A39 -/
namespace Kr
open PySem L2
/-! ## objects: nodes of kind obj -/
/-! ### fields -/
def lookF (f : Str) : List Str → Option Nat
  | [] => none
  | g :: fs => if g = f then some 0 else (lookF f fs).map (· + 1)
def objN : Option (Nat × List Nat × Kd × Addr × List Tr) → Option (Nat × List Nat × Addr × Addr × List Str × Addr × List Tr)
  | some (n, pt, .obj C dx fs, q, ts) => some (n, pt, C, dx, fs, q, ts)
  | _ => none
def objAt (s : AS) (x : AVal) : Option (Nat × List Nat × Addr × Addr × List Str × Addr × List Tr) := objN (nodeAt s x)
section
variable {X : Cx} {B : Bs} {ad : List Addr} {F H : Hp} {s : AS} {σ : St} {x y : AVal} {u v : V} {o e value : Expr} {pos tpos apos : Pos} {ta tb tc : TEA} {f m : Str} {C dx q : Addr} {n : Nat} {pt : List Nat} {fs : List Str} {ts : List Tr} {es : List Expr} {tl : TLA} {t : SpT}
/-- o.f -/
def attrA (C : Addr) (f : Str) (ta : TEA) : TEA := fun s Q => ta s fun x s1 => onSome (objAt s1 x) fun N => N.2.2.1 = C ∧ onSome (lookF f N.2.2.2.2.1) fun i => onSome (kids N.1 N.2.1 N.2.2.2.2.2.2)[i]? fun z => Q z s1
/-- o.f = e -/
def setO (g : Nat → Addr) (s : AS) (y : AVal) (cs : List Cell) (f : Str) (n : Nat) (pt : List Nat) (C dx : Addr) (fs : List Str) (q : Addr) (ts : List Tr) (t u : Tr) : Option Nat → AS
  | none => ⟨mvS g cs n (ts.length :: pt) y s.sl, cs.set n (.tr (t.put pt (.nd (.obj C dx (fs ++ [f])) q (ts ++ [u]))))⟩
  | some i => ⟨mvS g cs n (i :: pt) y s.sl, cs.set n (.tr (t.put pt (.nd (.obj C dx fs) q (ts.set i u))))⟩
def setFA (C : Addr) (f : Str) (tv ta : TEA) : TSA := fun D s => tv s fun y s1 => ta s1 fun x s2 => ∀ g : Nat → Addr, onSome (grab g s2.cs y) fun r => onSome (objAt ⟨s2.sl, r.2⟩ x) fun N => N.2.2.1 = C ∧ N.2.2.2.2.1.length < 1000 ∧ onSome (treeAt r.2 N.1) fun t => D.nx (setO g s2 y r.2 f N.1 N.2.1 C N.2.2.2.1 N.2.2.2.2.1 N.2.2.2.2.2.1 N.2.2.2.2.2.2 t r.1 (lookF f N.2.2.2.2.1))
/-! ### objects made -/
def makeO (C : Addr) (t : SpT) (tl : TLA) : TEA := fun s Q => tl s fun xs s1 => ∀ p dx : Addr, callW t (.r s1.cs.length :: xs) ⟨s1.sl, s1.cs ++ [.tr (.nd (.obj C dx []) p [])]⟩ fun rv s2 => rv = .f .none ∧ Q (.r s1.cs.length) s2
variable {k : Nat} {fa : Addr} {fd : FuncData} {ps : List Str} {xn : Str} {p : Pos}
/-! ### methods -/
def methF (C : Addr) (m : Str) (t : SpT) (ta : TEA) (tl : TLA) : TEA := fun s Q => ta s fun x s1 => onSome (objAt s1 x) fun N => N.2.2.1 = C ∧ lookF m N.2.2.2.2.1 = none ∧ tl s1 fun xs s2 => callW t (x :: xs) s2 (resF Q)
def methO (C : Addr) (m : Str) (t : SpT) (ta : TEA) (tl : TLA) : TEA := fun s Q => ta s fun x s1 => onSome (objAt s1 x) fun N => N.2.2.1 = C ∧ lookF m N.2.2.2.2.1 = none ∧ tl s1 fun xs s2 => callW t (x :: xs) s2 (resO (refsOf (x :: xs)) Q)
end
end Kr
/-! layer A40 -/
namespace Kr
open PySem L2
/-! ## dicts that hang in trees -/
def dcN : Option (Nat × List Nat × Kd × Addr × List Tr) → Option (Nat × List Nat × List Key × Addr × List PyData)
  | some (n, pt, .dct ks, q, ts) => (leafs ts).map fun ds => (n, pt, ks, q, ds)
  | _ => none
def dcAt (s : AS) (x : AVal) : Option (Nat × List Nat × List Key × Addr × List PyData) := dcN (nodeAt s x)
/-- a dict of data, as a node -/
def dctK (q : Addr) (kvs : List (Key × PyData)) : Tr := .nd (.dct (kvs.map (·.1))) q (kvs.map fun p => .d p.2)
section
variable {X : Cx} {B : Bs} {ad : List Addr} {F H : Hp} {s : AS} {σ : St} {x y : AVal} {u v : V} {o e value a b : Expr} {pos tpos apos cpos py p p1 spos : Pos} {ta tb tc : TEA} {f m : Str} {C dx q : Addr} {n : Nat} {pt : List Nat} {fs : List Str} {ts : List Tr} {es : List Expr} {tl : TLA} {t : TSA}
/-- d[k] = v -/
def putN (tv to ti : TEA) : TSA := fun D s => tv s fun v s1 => to s1 fun x s2 => ti s2 fun y s3 => onSome (dcAt s3 x) fun N => onSome y.key? fun k => onSome v.data? fun d => onSome (treeAt s3.cs N.1) fun t => N.2.2.2.2.length < sizeLine ∧ D.nx ⟨s3.sl, s3.cs.set N.1 (.tr (t.put N.2.1 (dctK N.2.2.2.1 (putA (N.2.2.1.zip N.2.2.2.2) k d))))⟩
/-! ### ints -/
def bitsA (to : TEA) : TEA := fun s Q => to s fun x s1 => onSome x.int? fun i => Q (.d (.int (Builtin.Int.intBits i : Nat))) s1
/-- name op= e, of ints -/
def augN (g : Int → Int → Int) (k : Nat) (te : TEA) : TSA := fun D s => onSome (s.sl[k]?.bind id) fun x => onSome x.int? fun i => te s fun y s1 => onSome y.int? fun j => D.nx ⟨s1.sl.set k (some (.d (.int (g i j)))), s1.cs⟩
/-! ### {k: v} -/
def dispA (tk tv : TEA) : TEA := fun s Q => tk ⟨s.sl, s.cs ++ [.dK []]⟩ fun x s1 => tv s1 fun y s2 => onSome x.key? fun k => onSome y.data? fun d => s2.cs[s.cs.length]? = some (.dK []) ∧ Q (.r s.cs.length) ⟨s2.sl, s2.cs.set s.cs.length (.dK [(k, d)])⟩
/-! ### dicts told for good are walked where they stand -/
/-- nothing but dicts may be otherwise -/
def Agr (H H' : Hp) : Prop := ∀ q u, H q = some u → (∀ es, ¬ IsDk es u) → H' q = some u
theorem Agr.refl (H : Hp) : Agr H H := fun _ _ h _ => h
def pkV (k : Nat) (s : AS) : Option PyData := (s.sl[k]?.bind id).bind AVal.data?
def pkI (pa pb : AS → Option PyData) (s : AS) : Option PyData := match pa s, pb s with
  | some (.list ds), some (.int i) => L2.atI ds i
  | _, _ => none
def pkF (C : Addr) (f : Str) (k : Nat) (s : AS) : Option PyData := (s.sl[k]?.bind id).bind fun x => (objAt s x).bind fun N => if N.2.2.1 = C then (lookF f N.2.2.2.2.1).bind fun i => (kids N.1 N.2.1 N.2.2.2.2.2.2)[i]?.bind AVal.data? else none
/-- what the walk over it tells -/
def iterP (pk : AS → Option PyData) : TIO := fun s Q => onSome (pk s) fun d => onSome (keysOf d) fun ds => Q ds (fun _ => True) s
variable {elt tg c : Expr} {scope : Scope} {yn : Str} {g : TGA} {tt : TTA} {te : TEA} {ks : List Nat} {pk : AS → Option PyData} {body : List Stmt}
/-- for x in e -/
def forPA (m : Nat) (pk : AS → Option PyData) (g : TGA) (t : TSA) : TSA := fun D s => onSome (pk s) fun d => onSome (keysOf d) fun ds => forW m (okG (fun _ => True) g) t D ds s
end
end Kr
/-! layer A41 -/
namespace Kr
open PySem L2
/-! ### {k: v}, k a tuple -/
section
open PySem.Spec PyProof.Rows
variable {X : Cx} {B : Bs} {σ : L2.St} {a b c : Expr} {pos p2 : Pos} {ta tb tc : TEA} {ka kb : TE}
def dispTT (tk tv : TEA) : TEA := fun s Q => ∀ f : Nat → Addr, tk ⟨s.sl, s.cs ++ [.tr (.nd (.dctT []) (f s.cs.length) [])]⟩ fun x s1 => tv s1 fun y s2 => onSome (keyTd x) fun k => onSome y.data? fun d => s2.cs[s.cs.length]? = some (.tr (.nd (.dctT []) (f s.cs.length) [])) ∧ Q (.r s.cs.length) ⟨s2.sl, s2.cs.set s.cs.length (.tr (.nd (.dctT [k]) (f s.cs.length) [.d d]))⟩
/-- x[i:j] -/
def slLH (ta tb tc : TEA) : TEA := fun s Q => ta s fun x s1 => tb s1 fun y s2 => onSome y.int? fun i => tc s2 fun z s3 => onSome z.int? fun j => slA (some i) (some j) x s3 Q
theorem ea_slLH (ha : EA X B a ta) (hb : EA X B b tb) (hc : EA X B c tc) : EA X B (.Subscript a (.Slice (some b) (some c) none p2) pos) (slLH ta tb tc) := ⟨fun ad F H s σ Q r t =>
  we_of (pe_slice sl_any pe_we (po_some pe_we) (po_some pe_we)) ((ha.run ad F H s σ _ r t).imp fun u H1 q => by
    obtain ⟨ad1, F1, x, s1, e1, k1, r1, hx, q⟩ := q
    refine (hb.run ad1 F1 H1 s1 σ _ r1 q).imp fun v H2 q => ?_
    obtain ⟨ad2, F2, y, s2, e2, k2, r2, hy, i, ei, q⟩ := q
    have := AVal.int?_of ei
    subst this
    refine ⟨i, hy, (hc.run ad2 F2 H2 s2 σ _ r2 q).imp fun w H3 q => ?_⟩
    obtain ⟨ad3, F3, z, s3, e3, k3, r3, hz, j, ej, q⟩ := q
    have := AVal.int?_of ej
    subst this
    exact ⟨j, hz, slUp (slA_ok r3 (hx.mono (e2.trans e3) (k2.trans k3)) q) fun _ _ h => h.up (e1.trans (e2.trans e3)) (k1.trans (k2.trans k3))⟩)⟩
end
/-! ### for the simp set -/
section
variable {n : Nat} {pt : List Nat} {C dx q : Addr} {fs : List Str} {ts : List Tr} {ks : List Key} {s : AS} {x : AVal}
theorem objN_o : objN (some (n, pt, .obj C dx fs, q, ts)) = some (n, pt, C, dx, fs, q, ts) := rfl
theorem kidsAt {i : Nat} : (kids n pt ts)[i]? = (ts[i]?).map (valT n (i :: pt)) := by unfold kids; rw [List.getElem?_mapIdx]
theorem valT_d {d : PyData} : valT n pt (.d d) = .d d := rfl
theorem valT_nd {k : Kd} {a : Addr} : valT n pt (.nd k a ts) = .a a n pt := rfl
theorem valT_k {kvs : List (Key × PyData)} : valT n pt (dctK q kvs) = .a q n pt := rfl
theorem setO_none {g : Nat → Addr} {y : AVal} {cs : List Cell} {f : Str} {t u : Tr} : setO g s y cs f n pt C dx fs q ts t u none = ⟨mvS g cs n (ts.length :: pt) y s.sl, cs.set n (.tr (t.put pt (.nd (.obj C dx (fs ++ [f])) q (ts ++ [u]))))⟩ := rfl
theorem setO_some {g : Nat → Addr} {y : AVal} {cs : List Cell} {f : Str} {t u : Tr} {i : Nat} : setO g s y cs f n pt C dx fs q ts t u (some i) = ⟨mvS g cs n (i :: pt) y s.sl, cs.set n (.tr (t.put pt (.nd (.obj C dx fs) q (ts.set i u))))⟩ := rfl
theorem kids_leafs (ds : List PyData) : kids n pt (ds.map .d) = ds.map .d := by
  unfold kids
  apply List.ext_getElem?
  intro i
  rw [List.getElem?_mapIdx, List.getElem?_map, List.getElem?_map]
  cases ds[i]? <;> rfl
theorem zip_kv (kvs : List (Key × PyData)) : (kvs.map (·.1)).zip (kvs.map (·.2)) = kvs := by
  induction kvs with
  | nil => rfl
  | cons p r ih => simp only [List.map_cons, List.zip_cons_cons, ih]
theorem zip_kids (kvs : List (Key × PyData)) : (kvs.map (·.1)).zip (kids n pt (kvs.map fun p => Tr.d p.2)) = dkv kvs := by
  have e : (kvs.map fun p => Tr.d p.2) = (kvs.map (·.2)).map .d := by rw [List.map_map]; rfl
  rw [e, kids_leafs]
  unfold dkv
  clear e
  induction kvs with
  | nil => rfl
  | cons p r ih => simp only [List.map_cons, List.zip_cons_cons]; rw [ih]
theorem viewT_k (kvs : List (Key × PyData)) : viewT n pt (.dct (kvs.map (·.1))) (kvs.map fun p => .d p.2) = .dct (dkv kvs) := by
  show View.dct ((kvs.map (·.1)).zip (kids n pt (kvs.map fun p => Tr.d p.2))) = _
  have e : (kvs.map fun p => Tr.d p.2) = (kvs.map (·.2)).map .d := by rw [List.map_map]; rfl
  rw [e, kids_leafs]
  congr 1
  unfold dkv
  induction kvs with
  | nil => rfl
  | cons p r ih => simp only [List.map_cons, List.zip_cons_cons]; rw [ih (by rw [List.map_map]; rfl)]
theorem dcN_k (kvs : List (Key × PyData)) : dcN (some (n, pt, .dct (kvs.map (·.1)), q, kvs.map fun p => .d p.2)) = some (n, pt, kvs.map (·.1), q, kvs.map (·.2)) := by
  have e : (kvs.map fun p => Tr.d p.2) = (kvs.map (·.2)).map .d := by rw [List.map_map]; rfl
  show (leafs (kvs.map fun p => Tr.d p.2)).map _ = _
  rw [e, leafs_map]; rfl
end
end Kr
/-! layer A42 -/
/-! layer A43 -/
namespace Kr
open PySem L2
/-! ### text.strip(signs) -/
section
open PySem.Spec PyProof.Rows
variable {X : Cx} {B : Bs} {σ : L2.St} {o e : Expr} {to te : TE} {ta tb : TEA} {apos pos : Pos}
def stripCA (to te : TEA) : TEA := fun s Q => to s fun x s1 => onSome x.str? fun z => te s1 fun y s2 => onSome y.str? fun w => z.length ≤ sizeLine ∧ Q (.d (.str (Txt.stripChars z w))) s2
end
/-! ### dict(enumerate(xs)) -/
def enumK (n : Nat) : List Key := (List.range n).map fun i : Nat => (.inl (i : Int) : Key)
section
variable {X : Cx} {B : Bs} {e : Expr} {p p2 pos pos2 : Pos} {tl : TLA}
def dictEnumN (tl : TLA) : TNA := fun s Q => tl s fun xs s1 => one (fun x => onSome (listOf s1 x) fun es => Q (.dK (mergeA [] ((enumK es.length).zip es))) s1) xs
end
/-! ### text * int, any short text -/
section
variable {X : Cx} {B : Bs}
def mulSA : AVal → AVal → TEA := fun x y s Q => match x with
  | .d (.str z) => onSome y.int? fun n => (0 ≤ n ∧ n ≤ 1000 ∧ z.length ≤ 1000) ∧ Q (.d (.str (Txt.mul z n))) s
  | x => mulX x y s Q
theorem mulSA_str {z : Str} {y : AVal} {s : AS} {Q : VQ} : mulSA (.d (.str z)) y s Q = onSome y.int? fun n => (0 ≤ n ∧ n ≤ 1000 ∧ z.length ≤ 1000) ∧ Q (.d (.str (Txt.mul z n))) s := rfl
theorem mulSA_list {ds : List PyData} {y : AVal} {s : AS} {Q : VQ} : mulSA (.d (.list ds)) y s Q = mulX (.d (.list ds)) y s Q := rfl
end
end Kr
/-! layer A44 -/
namespace Kr
open PySem L2
/-! ### draws by numbers of any size -/
/-! ### for over a text -/
section
variable {X : Cx} {B : Bs} {tg e : Expr} {ta : TEA}
def iterTx (ta : TEA) : AS → (List PyData → AS → Prop) → Prop := fun s Q => ta s fun x s1 => onSome x.str? fun z => z.length ≤ sizeLine ∧ Q (signsD z) s1
theorem ia_str (ha : EA X B e ta) : IA X B tg e (iterTx ta) := ⟨fun ad F H s σ Q R r t k => wi_of (pi_str pe_we) ((ha.run ad F H s σ _ r t).imp fun u H1 q => by
  obtain ⟨ad1, F1, x, s1, e1, k1, r1, hx, z, ed, hz, q⟩ := q
  have := AVal.str?_of ed
  subst this
  obtain rfl : u = .str z := hx
  have hl : (signsD z).length = z.cps.size := by simp [signsD]
  refine ⟨z, rfl, k _ ad1 F1 H1 s1 _ e1 k1 r1 (Walks0.w fun F3 H3 s1 s2 => ⟨fun i d e => ?_, ?_⟩) (by rw [hl]; exact hz) q⟩
  · have hi : i < z.cps.size := by
      have := (List.getElem?_eq_some_iff.mp e).1
      omega
    refine ⟨hi, fun x H4 y => ?_⟩
    obtain ⟨rfl, c, hc, rfl⟩ := y
    refine ⟨rfl, ?_⟩
    unfold signsD at e
    rw [List.getElem?_map, Array.getElem?_toList, hc] at e
    cases e
    rfl
  · show z.cps.size ≤ (signsD z).length
    omega)⟩
end
end Kr
/-! layer A50 -/
namespace L2
open PySem PySem.Spec PyProof.Rows
/-! ### sorted(d, key=len, reverse=True) of a dict keyed by tuples -/
end L2
namespace Kr
open PySem L2
/-! ## dicts keyed by tuples: their keys in order -/
def keyTD (k : List Key) : PyData := .tuple (k.map keyD)
def Kd.noTup : Kd → Bool
  | .tup => false
  | _ => true
mutual
def Tr.noTup : Tr → Bool
  | .d _ => true
  | .nd k _ xs => k.noTup && Tr.noTupL xs
def Tr.noTupL : List Tr → Bool
  | [] => true
  | t :: ts => t.noTup && Tr.noTupL ts
end
def Cell.noTup : Cell → Bool
  | .nt _ => false
  | .tr t => t.noTup
  | _ => true
section
variable {X : Cx} {B : Bs} {ad : List Addr} {F H : Hp} {s : AS} {σ : St} {x y : AVal} {u v : V} {o e a b value : Expr} {pos tpos p p2 p3 q q2 : Pos} {ta tb tc : TEA} {n : Nat}
theorem COk.noTup {p : Addr} {c : Cell} (h : COk ad F H p c) (hl : c.live = true) (hn : c.noTup = true) : ∀ vs, H p ≠ some (.tup vs) := by
  intro vs
  cases c with
  | lst ds => obtain ⟨ws, h1, _⟩ := h; rw [h1]; exact fun z => nomatch z
  | dK kvs => obtain ⟨ws, h1, _⟩ := h; rw [h1]; exact fun z => nomatch z
  | pool n =>
    obtain ⟨_, _, _, h1, _⟩ := h
    rw [h1]; exact fun z => nomatch z
  | fz x => cases hl
  | gone => cases hl
  | nl xs => obtain ⟨ws, h1, _⟩ := h; rw [h1]; exact fun z => nomatch z
  | nt xs => cases hn
  | nd kvs => obtain ⟨ws, h1, _⟩ := h; rw [h1]; exact fun z => nomatch z
  | dl od es kvs => rw [h.1]; exact fun z => nomatch z
  | tr t => cases hl
def lenK (x : List Key) : PyData := .int (x.length : Int)
/-- sorted(d, key=len, reverse=True) -/
def sortLRN (ta : TEA) : TNA := fun s Q => ta s fun x s1 => onSome (dtAt s1 x) fun N => s1.cs.all Cell.noTup = true ∧ Q (.lst ((N.2.2.1.mergeSort (PySem.W.dataLe true lenK)).map keyTD)) s1
end
end Kr
/-! layer A51 -/
namespace Kr
open PySem L2
/-! ## dicts keyed by tuples: what stands at a key, values of our own -/
def getZ {κ β : Type} [DecidableEq κ] (l : List (κ × β)) (k : κ) : Option β := (l.find? fun p => decide (p.1 = k)).map (·.2)
section
variable {X : Cx} {B : Bs} {ad : List Addr} {F H : Hp} {s : AS} {σ : St} {x y : AVal} {u v : V} {o e a b value : Expr} {pos tpos p p2 p3 q q2 : Pos} {ta tb tc : TEA} {n : Nat}
def getTT (ta tb : TEA) : TEA := fun s Q => ta s fun x s1 => tb s1 fun y s2 => onSome (dtAt s2 x) fun N => onSome (keyTd y) fun k => onSome (getZ (N.2.2.1.zip (kids N.1 N.2.1 N.2.2.2.2)) k) fun z => Q z s2
/-- d[k] = v, k not yet there, v a cell of our own that goes into the tree -/
def putTO (tv to ti : TEA) : TSA := fun D s => tv s fun v s1 => to s1 fun x s2 => ti s2 fun y s3 => ∀ f : Nat → Addr, onSome (grab f s3.cs v) fun g => onSome (dtAt ⟨s3.sl, g.2⟩ x) fun N => onSome (keyTd y) fun k => onSome (treeAt g.2 N.1) fun t => (memT k N.2.2.1 = false ∧ N.2.2.2.2.length < sizeLine) ∧ D.nx ⟨mvS f g.2 N.1 (N.2.2.2.2.length :: N.2.1) v s3.sl, g.2.set N.1 (.tr (t.put N.2.1 (.nd (.dctT (N.2.2.1 ++ [k])) N.2.2.2.1 (N.2.2.2.2 ++ [g.1]))))⟩
/-- {k: v} with a value of our own -/
def dispTO (tk tv : TEA) : TEA := fun s Q => ∀ f : Nat → Addr, tk ⟨s.sl, s.cs ++ [.tr (.nd (.dctT []) (f s.cs.length) [])]⟩ fun x s1 => tv s1 fun y s2 => onSome (keyTd x) fun k => ∀ f2 : Nat → Addr, onSome (grab f2 s2.cs y) fun g => g.2[s.cs.length]? = some (.tr (.nd (.dctT []) (f s.cs.length) [])) ∧ Q (.r s.cs.length) ⟨mvS f2 g.2 s.cs.length [0] y s2.sl, g.2.set s.cs.length (.tr (.nd (.dctT [k]) (f s.cs.length) [g.1]))⟩
end
end Kr
namespace Kr
open PySem L2
/-! ## defs that tell a tree of bare things: what they froze is forgotten -/
def bareI : PyData → Bool
  | .int _ => true
  | .str _ => true
  | .bool _ => true
  | .none => true
  | _ => false
mutual
def Tr.imm : Tr → Bool
  | .d x => bareI x
  | .nd _ _ xs => Tr.immL xs
def Tr.immL : List Tr → Bool
  | [] => true
  | t :: ts => t.imm && Tr.immL ts
end
def AVal.isD : AVal → Bool
  | .d _ => true
  | _ => false
def retI (P : RV → List Cell → Prop) (x : AVal) (s : AS) : Prop := match x with
  | .r n => onSome s.cs[n]? fun c => match c with
    | .tr t => t.imm = true ∧ P (.t t) []
    | _ => False
  | _ => False
def bodyTI (k : Nat) (t : Nat → TSA) : SpT := fun xs cs P => (cs = [] ∧ xs.all AVal.isD = true) ∧ t 0 ⟨retI P (.d .none), retI P, fun _ => False, fun _ => False⟩ ⟨xs.map some ++ List.replicate k none, []⟩
end Kr
/-! layer A52 -/
namespace L2
open PySem PySem.Spec PyProof.Rows
/-! ### sorted of a tuple of ints -/
end L2
namespace Kr
open PySem L2
section
variable {X : Cx} {B : Bs} {ad : List Addr} {F H : Hp} {s : AS} {σ : St} {x y : AVal} {u v : V}
/-- x in t of a tuple told -/
def inTup (neg : Bool) (x y : AVal) : TTA := fun s Q => onSome (tupD y) fun ds => onSome x.data? fun d => (flatD d = true ∧ ds.all flatD = true) ∧ Q (inD d ds != neg) s
/-- sorted(t) of a tuple of ints -/
def sortedTN (xs : List AVal) : TNA := fun s Q => one (fun x => onSome (tupD x) fun ds => onSome (ints? ds) fun ns => ns.length < 64 ∧ Q (.lst ((srtI ns).map .int)) s) xs
end
theorem sortedTN_1 {x : AVal} {s : AS} {Q : Cell → AS → Prop} : sortedTN [x] s Q = onSome (tupD x) fun ds => onSome (ints? ds) fun ns => ns.length < 64 ∧ Q (.lst ((srtI ns).map .int)) s := rfl
end Kr
/-! layer A53 -/
/-! layer A54 -/
/-! layer A55 -/
namespace Kr
open PySem L2
/-! ## sorted of a list of trees: the same trees in a new list -/
section
variable {X : Cx} {B : Bs} {ad : List Addr} {F H : Hp} {s : AS} {σ : St} {x y : AVal} {u v : V} {cs : List Cell} {ls ls2 ts : List Tr}
theorem Loose.sub (L : Loose B ad F H cs ls) (h : ∀ q, (Tr.addrsL ls2).count q ≤ (Tr.addrsL ls).count q) : Loose B ad F H cs ls2 := by
  have hm : ∀ q ∈ Tr.addrsL ls2, q ∈ Tr.addrsL ls := fun q hq => List.count_pos_iff.mp (Nat.lt_of_lt_of_le (List.count_pos_iff.mpr hq) (h q))
  exact ⟨fun q => by have h1 := h q; have h2 := L.cnt q; omega, fun q hq => L.off q (hm q hq), fun q hq => L.fr q (hm q hq), fun q hq => L.own q (hm q hq)⟩
end
/-! ## str of an int, of a text -/
end Kr
/-! layer A56 -/
namespace Kr
open PySem L2
/-! ## an expression that reads our own things as they stand, and tells a new tree of bare things -/
def Kd.noObj : Kd → Bool
  | .obj _ _ _ => false
  | _ => true
mutual
def Tr.bare : Tr → Bool
  | .d x => bareD x
  | .nd k _ ts => k.noObj && Tr.bares ts
def Tr.bares : List Tr → Bool
  | [] => true
  | t :: ts => t.bare && Tr.bares ts
end
end Kr
/-! layer A57 -/
/-! layer A58 -/
/-! layer A59 -/
/-! layer A60 -/
/-! layer A61 -/
/-! layer A62 -/
namespace Kr
open PySem L2
/-! ## lists whose things are nodes, or things of our own -/
abbrev TIV := AS → (List AVal → (List Cell → Prop) → AS → Prop) → Prop
section
variable {X : Cx} {B : Bs} {σ : St} {F H : Hp} {ad : List Addr} {s : AS} {x : AVal} {u : V} {elt tg iter c e : Expr} {scope : Scope} {pos spos py : Pos} {own : List (Str × Nat)} {y : Str} {ti : TIV} {g : TGA} {ta te : TEA} {ks vs : List Nat}
theorem Paired.app {α β : Type} {R : α → β → Prop} : ∀ {xs : List α} {ys : List β} {xs2 : List α} {ys2 : List β}, Paired R xs ys → Paired R xs2 ys2 → Paired R (xs ++ xs2) (ys ++ ys2)
  | _, _, _, _, .nil, h => h
  | _, _, _, _, .cons a t, h => .cons a (Paired.app t h)
end
end Kr
/-! layer A64 -/
/-! methods from which an error may come -/
namespace L2
open PySem PySem.Spec PyProof.Rows
end L2
namespace Kr
open PySem L2
def methXF (C : Addr) (m : Str) (t : SpTX) (W : PyData → AS → Prop) (ta : TEA) (tl : TLA) : TEA := fun s Q => ta s fun x s1 => onSome (objAt s1 x) fun N => N.2.2.1 = C ∧ lookF m N.2.2.2.2.1 = none ∧ tl s1 fun xs s2 => callWX t W (x :: xs) s2 (resF Q)
end Kr
/-! layer A65 -/
namespace L2
open PySem PySem.Spec PyProof.Rows
/-! ## sorted(d) of a dict of text keys, of any size -/
end L2
namespace Kr
open PySem L2
def sortedBV (x : AVal) (s : AS) (Q : Cell → AS → Prop) : View → Prop
  | .dct kvs => onSome (txtKeys kvs) fun ks => ks.length ≤ 100000 ∧ Q (.lst ((srt ks).map .str)) s
  | _ => False
def sortedBN (xs : List AVal) : TNA := fun s Q => one (fun x => sortedBV x s Q (view s x)) xs
section
variable {X : Cx} {B : Bs}
theorem sortedBN_1 {x : AVal} {s : AS} {Q : Cell → AS → Prop} : sortedBN [x] s Q = sortedBV x s Q (view s x) := rfl
theorem sortedBV_d {x : AVal} {s : AS} {Q : Cell → AS → Prop} {kvs : List (Key × AVal)} : sortedBV x s Q (.dct kvs) = onSome (txtKeys kvs) fun ks => ks.length ≤ 100000 ∧ Q (.lst ((srt ks).map .str)) s := rfl
end
end Kr
/-! layer A66 -/
namespace Kr
open PySem L2
/-! ## a, b, c, d = x -/
def tup4V (g1 g2 g3 g4 : TGA) (s : AS) (Q : AS → Prop) : List AVal → Prop
  | [x1, x2, x3, x4] => g1 x1 s fun s1 => g2 x2 s1 fun s2 => g3 x3 s2 fun s3 => g4 x4 s3 Q
  | _ => False
def tup4G (g1 g2 g3 g4 : TGA) : TGA := fun x s Q => onSome (tupOf s x) (tup4V g1 g2 g3 g4 s Q)
section
variable {X : Cx} {t1 t2 t3 t4 : Expr} {ks1 ks2 ks3 ks4 : List Nat} {g1 g2 g3 g4 : TGA} {pos : Pos}
theorem tup4G_V {x : AVal} {s : AS} {Q : AS → Prop} : tup4G g1 g2 g3 g4 x s Q = onSome (tupOf s x) (tup4V g1 g2 g3 g4 s Q) := rfl
theorem tup4V_4 {s : AS} {QS : AS → Prop} {x y w z : AVal} : tup4V g1 g2 g3 g4 s QS [x, y, w, z] = g1 x s fun s1 => g2 y s1 fun s2 => g3 w s2 fun s3 => g4 z s3 QS := rfl
end
end Kr
/-! layer A67 -/
/-! layer A68 -/
namespace Kr
open PySem L2
/-! ## two promises of one expression: either may be used -/
def eitherA (ta tb : TEA) : TEA := fun s Q => ta s Q ∨ tb s Q
/-! ## x or y, x None or a list that is told -/
def truD : AVal → Option Bool
  | .d .none => some false
  | .d (.list ds) => some (!ds.isEmpty)
  | _ => none
def orDV (ta tb : TEA) : TEA := fun s Q => ta s fun x s1 => onSome (truD x) fun b => if b = true then Q x s1 else tb s1 Q
theorem truD_none : truD (.d .none) = some false := rfl
theorem truD_list {ds : List PyData} : truD (.d (.list ds)) = some (!ds.isEmpty) := rfl
end Kr
/-! layer A69 -/
namespace Kr
open PySem L2
/-! ## list(t) of a tuple that is told -/
def listTN (xs : List AVal) : TNA := fun s Q => one (fun x => onSome (tupD x) fun ds => Q (.lst ds) s) xs
theorem c_listT {X : Cx} {B : Bs} : CalN X B (.type "list") listTN := fun ad F H s σ xs us Q r hp t => by
  obtain ⟨x, u, rfl, rfl, hx, ds, e, q⟩ := one_ok t hp
  have := tupD_of e
  subst this
  obtain ⟨a, ys, rfl, h1, h2⟩ := (show ∃ a xs, u = .ref a ∧ F a = some (.tup xs) ∧ DaAll F ds xs from hx)
  exact ⟨_, call_list_of, a, ys, rfl, .inr (SqT.of (r.fh _ _ h1)), fun p hp => .here (c := .lst ds) r hp ⟨_, upd_same, h2⟩ rfl q⟩
theorem listTN_1 {ds : List PyData} {s : AS} {Q : Cell → AS → Prop} : listTN [.d (.tuple ds)] s Q = Q (.lst ds) s := by
  unfold listTN
  simp only [one_1, tupD, onSome_some]
end Kr
/-! layer A70 -/
namespace Kr
open PySem L2
/-! ## a call to which nodes of trees are handed, as trees of their own -/
section
variable {F H F3 H3 : Hp} {ad : List Addr} {cs cs3 : List Cell} {j : Nat} {pt : List Nat} {k : Kd} {q p0 : Addr} {ys : List Tr} {t u : Tr} {vs : List V}
/-- the nodes among the things handed in -/
def ptsOf : List AVal → List (Option (Addr × List Nat))
  | [] => []
  | .r _ :: xs => none :: ptsOf xs
  | .a p _ pt :: xs => some (p, pt) :: ptsOf xs
  | .d _ :: xs => ptsOf xs
  | .s _ _ :: xs => ptsOf xs
def renT (ns : List Nat) : AVal → AVal
  | .r n => .r (ns.idxOf n)
  | .a _ n _ => .r (ns.idxOf n)
  | x => x
def subT (cs : List Cell) : Nat → List (Option (Addr × List Nat)) → Option (List Cell)
  | _, [] => some cs
  | j, none :: ps => subT cs (j + 1) ps
  | j, some (p, pt) :: ps => (nodeAt ⟨[], cs⟩ (.a p j pt)).bind fun N => subT (cs.set j (.tr (.nd N.2.2.1 N.2.2.2.1 N.2.2.2.2))) (j + 1) ps
def putU (cs : List Cell) (j : Nat) (pt : List Nat) (c4 : List Cell) : Option (List Cell) := match cs[j]?, c4[j]? with
  | some (.tr t), some (.tr u) => some (c4.set j (.tr (t.put pt u)))
  | _, _ => none
def backT (cs : List Cell) : Nat → List (Option (Addr × List Nat)) → List Cell → Option (List Cell)
  | _, [], c3 => some c3
  | j, none :: ps, c3 => backT cs (j + 1) ps c3
  | j, some (p, pt) :: ps, c3 => (nodeAt ⟨[], cs⟩ (.a p j pt)).bind fun N => (backT (cs.set j (.tr (.nd N.2.2.1 N.2.2.2.1 N.2.2.2.2))) (j + 1) ps c3).bind fun c4 => putU cs j pt c4
end
def callN (t : SpT) (tl : TLA) : TEA := fun s Q => tl s fun xs s1 => (refsOf xs).Nodup ∧ onSome (subC s1.cs (refsOf xs)) fun cs => cs.all Cell.pass = true ∧ onSome (subT cs 0 (ptsOf xs)) fun cs2 => t (xs.map (renT (refsOf xs))) cs2 fun rv cs3 => cs3.length = cs2.length → onSome (backT cs 0 (ptsOf xs) cs3) fun cs4 => resF Q rv ⟨s1.sl, putC s1.cs (refsOf xs) cs4⟩
end Kr
/-! layer A71 -/
namespace Kr
open PySem L2
/-! ## x[i] = v, x a list node, v a thing of our own -/
def putG (tv to ti : TEA) : TSA := fun D s => tv s fun y s1 => to s1 fun x s2 => ti s2 fun z s3 => onSome z.int? fun i => ∀ g : Nat → Addr, onSome (grab g s3.cs y) fun r => onSome (nodeAt ⟨s3.sl, r.2⟩ x) fun N => N.2.2.1 = .lst ∧ onSome (treeAt r.2 N.1) fun t => onSome (ixN N.2.2.2.2.length i) fun j =>
  D.nx ⟨mvS g r.2 N.1 (j :: N.2.1) y s3.sl, r.2.set N.1 (.tr (t.put N.2.1 (.nd .lst N.2.2.2.1 (N.2.2.2.2.set j r.1))))⟩
end Kr
/-! layer A72 -/
/-! ## o.replace(y, z, 1) of two written texts -/
namespace Kr
open PySem PySem.Spec PyProof.Rows L2 PySem.Builtin PySem.Builtin.Str
def repl1 (x y z : Str) : Str := if ((occurrences x y 0 x.length 1).isEmpty || (y.length == 0 && z.length == 0)) = true then x else glued z (partsBetween x (occurrences x y 0 x.length 1) y.length)
theorem gives_repl1 (x y z : Str) (t u v w : Tok)
    (hf : ((occurrences x y 0 x.length 1).isEmpty || (y.length == 0 && z.length == 0)) = false →
      (u == 0 || v == 0) = false ∧ (u == v) = false ∧ (y == z) = false ∧ tooLong (x.length + (occurrences x y 0 x.length 1).length * z.length) = false) :
    Gives («str.replace» ⟨[.str x t, .str y u, .str z v, .int 1 w], []⟩) (if ((occurrences x y 0 x.length 1).isEmpty || (y.length == 0 && z.length == 0)) = true then .val (.str x t) else .str (glued z (partsBetween x (occurrences x y 0 x.length 1) y.length))) := by
  show Gives (if ((occurrences x y 0 x.length 1).isEmpty || (y.length == 0 && z.length == 0)) = true then (do rule "str.replace.nothing"; ret (.str x t)) else
          (do let same ← isSame (.str y u) (.str z v)
              if same = true then (do rule "str.replace.old-is-new"; ret (.str x t)) else
              if tooLong (x.length + (occurrences x y 0 x.length 1).length * z.length) = true then unsupported "str.replace:memory" else
              retStr (glued z (partsBetween x (occurrences x y 0 x.length 1) y.length)))) _
  cases hc : ((occurrences x y 0 x.length 1).isEmpty || (y.length == 0 && z.length == 0))
  · obtain ⟨h0, huv, hyz, hl⟩ := hf hc
    rw [isSame_str_other y z u v h0 huv hyz, hl]
    exact .of_eq rfl
  · exact .rule (.of_eq rfl)
/-- the text behind: one occurrence at most is exchanged -/
theorem repl1_size (x y z : Str) : (glued z (partsBetween x (occurrences x y 0 x.length 1) y.length)).length ≤ x.length + z.length := by
  have h1 := StrLaws.occ_length_le x y 0 x.length 1
  have hy : (glued y (partsBetween x (occurrences x y 0 x.length 1) y.length)).length = x.length := by rw [StrLaws.glued_between_self]
  rw [size_glued, length_partsBetween, Nat.add_sub_cancel] at hy
  rw [size_glued, length_partsBetween, Nat.add_sub_cancel]
  have h2 : (occurrences x y 0 x.length 1).length * z.length ≤ 1 * z.length := Nat.mul_le_mul_right _ h1
  omega
theorem repl1_len (x y z : Str) : (repl1 x y z).length ≤ x.length + z.length := by
  unfold repl1
  split
  · omega
  · exact repl1_size x y z
section
variable {prog : Program} {w : World} {A : Around} {E : Value → Shared → Prop} {s : Shared} {x y z : Str} {t u v wt : Tok} {Q : Value → Shared → Prop}
theorem call_repl1 (hu : u ≠ 0) (hv : v ≠ 0) (huv : u ≠ v) (hyz : (y == z) = false) (hb : x.length + z.length ≤ 16777216)
    (hq : ∀ t' k, Q (.str (repl1 x y z) t') { s with toks := k }) : wpAny (model prog w) A (call (.builtin "str.replace") [.str x t, .str y u, .str z v, .int 1 wt]) Q E s := by
  have e : (2 : Nat) ^ 24 = 16777216 := by decide
  have hl : tooLong (x.length + (occurrences x y 0 x.length 1).length * z.length) = false := by
    have h1 := StrLaws.occ_length_le x y 0 x.length 1
    have h2 : (occurrences x y 0 x.length 1).length * z.length ≤ 1 * z.length := Nat.mul_le_mul_right _ h1
    unfold tooLong sizeLine
    exact decide_eq_false (by omega)
  refine call_gives F.slot_str_replace (typeIs_str _ _ _) F.entry_str_replace (F.args_str_replace_4 _ _ _ _)
    (gives_repl1 x y z t u v wt fun _ => ⟨by simp [hu, hv], by simp [huv], hyz, hl⟩) ?_
  have hq' := hq
  unfold repl1 at hq'
  cases hc : ((occurrences x y 0 x.length 1).isEmpty || (y.length == 0 && z.length == 0))
  · rw [hc] at hq'
    simp only [Bool.false_eq_true, if_false] at hq' ⊢
    have h9 := repl1_size x y z
    exact ⟨by rw [sizeLine_eq]; omega, hq' _ _⟩
  · rw [hc] at hq'
    simp only [if_true] at hq' ⊢
    exact hq' t s.toks
end
def tRepl1 (to : TE) (y z : Str) : TE := fun σ H Q => to σ H fun v H1 => ∃ x, v = .str x ∧ x.length + z.length ≤ 16777216 ∧ Q (.str (repl1 x y z)) H1
section
variable {X : Cx} {o e f : Expr} {to : TE} {y z : Str} {j k l : Nat} {c0 c1 c2 apos pos : Pos}
theorem pet_repl1 (ho : PE X o to) (hyz : (y == z) = false := by decide)
    (hst : starEach [.Constant (.str y) j c0, .Constant (.str z) k c1, .Constant (.int 1) l c2] X.env = [(false, eval (.Constant (.str y) j c0) X.env), (false, eval (.Constant (.str z) k c1) X.env), (false, eval (.Constant (.int 1) l c2) X.env)] := by rfl)
    (hbase : attributeBase o "replace" X.env (eval o X.env) = eval o X.env := by rfl) (hline : (apos.endLine == pos.line) = true := by rfl) :
    PET X (.Call (.Attribute o "replace" apos) [.Constant (.str y) j c0, .Constant (.str z) k c1, .Constant (.int 1) l c2] [] pos) (tRepl1 to y z) := by
  intro pins s σ H Q h0 I h
  refine PySem.wpAny_Call_method_lateS hbase (by rw [hst]; rfl) hline ?_
  rw [hst]
  refine wpAny_mono (PySem.wpAny_toks (ho.run pins s σ H _ I h)) (fun v s1 q => ?_) fun _ _ z => z.2
  obtain ⟨hk, v', H1, I1, r1, x, e1, hb, q⟩ := q
  subst e1
  obtain ⟨tx, e2⟩ := r1
  subst e2
  refine ⟨"str", _, PySem.F.plainAttrs_str, PySem.F.slot_str_replace, PySem.F.type_str_replace, typeIs_str _ _ _, (fun _ e => nomatch e), Calls.callWith_builtin rfl (Calls.evalArgs_plain (Calls.spliced_cons ?_))⟩
  refine Calls.Constant_str (k := j) (pos := c0) (Calls.spliced_cons (Calls.Constant_str (k := k) (pos := c1) (Calls.spliced_cons (wpAny_Constant_int (i := 1) (k := l) (pos := c2) (Calls.spliced_nil ?_)))))
  exact call_repl1 (by show s1.toks ≠ 0; omega) (by show s1.toks + 1 ≠ 0; omega) (by show s1.toks ≠ s1.toks + 1; omega) hyz hb fun t' k => ⟨.str (repl1 x y z), H1, I1.tok k, ⟨t', rfl⟩, q⟩
end
def repl1A (y w : Str) (to : TEA) : TEA := fun s Q => to s fun x s1 => onSome x.str? fun z => z.length + w.length ≤ 16777216 ∧ Q (.d (.str (repl1 z y w))) s1
/-! ## {"a": 1, "b": 2, "c": 3} -/
def disp3N (a b c : Str) (i j k : Int) : TNA := fun s Q => Q (.dK (mergeA [] [(Sum.inr a, .int i), (Sum.inr b, .int j), (Sum.inr c, .int k)])) s
/-! ## f() -/
end Kr
/-! layer A73 -/
/-! ## errors of the program's classes, made with one text and kept; str of them -/
namespace Kr
open PySem PySem.Spec PyProof.Rows L2
/-- an error of class C, its arguments at t -/
def exa (a C t : Addr) : HO := .ext fun h => ∃ oe vs, h.get? a = some oe ∧ oe.cls = .ref C ∧ oe.data = .fields vs ∧ vs[0]? = some (.ref t)
/-! ### a display of errors, walked -/
/-- new objects alone -/
def Hg (H H' : Hp) : Prop := (∀ b o, H b = some o → H' b = some o) ∧ ∀ (B : Bs) ad F s σ, Rl B ad F H s σ → ∃ F', Same F F' ∧ Rl B ad F' H' s σ
theorem Hg.refl (H : Hp) : Hg H H := ⟨fun _ _ h => h, fun B ad F s σ r => ⟨F, Same.refl _, r⟩⟩
theorem Hg.trans {H H1 H2 : Hp} (g : Hg H H1) (k : Hg H1 H2) : Hg H H2 := ⟨fun b o h => k.1 b o (g.1 b o h), fun B ad F s σ r => by
  obtain ⟨F1, k1, r1⟩ := g.2 B ad F s σ r
  obtain ⟨F2, k2, r2⟩ := k.2 B ad F1 s σ r1
  exact ⟨F2, k1.trans k2, r2⟩⟩
theorem Hg.new {H : Hp} {p : Addr} {o : HO} (h : H p = none) : Hg H (upd H p o) := ⟨fun b u q => by rw [upd_ne (fun z => by rw [z, h] at q; cases q)]; exact q, fun B ad F s σ r => by
  have g : Gr F H (upd F p o) (upd H p o) := (Gr.refl r.fh).shut h
  exact ⟨_, g.ff, r.gr g⟩⟩
def ErrAt (K : PySem.W.Frag) (m : Str) (H : Hp) (v : V) : Prop := ∃ a C t, v = .ref a ∧ H a = some (exa a C t) ∧ H t = some (.tup [.str m]) ∧ PySem.W.findIn K (.ref C) "__str__" = some (some (.builtin "BaseException.__str__")) ∧ PySem.W.subIn K (.ref C) (.type "BaseException") = some true
theorem ErrAt.mono {K : PySem.W.Frag} {m : Str} {H H' : Hp} {v : V} (k : ∀ b o, H b = some o → H' b = some o) (e : ErrAt K m H v) : ErrAt K m H' v := by
  obtain ⟨a, C, t, rfl, h1, h2, h3, h4⟩ := e
  exact ⟨a, C, t, rfl, k _ _ h1, k _ _ h2, h3, h4⟩
/-! ### an error made by its own __init__, and its field -/
end Kr
/-! layer A74 -/
/-! ## statements behind a first token: x[i] = o.replace(y, w, 1) in the branches of an `if` -/
namespace Kr
open PySem PySem.Spec PyProof.Rows L2 PySem.Builtin PySem.Builtin.Str
section
variable (X : Cx)
def WET (e : Expr) (σ : L2.St) (H : Hp) (Q : VK) : Prop := ∀ (pins : List (Addr × Obj)) (s : Shared), 1 ≤ s.toks → Inv X pins σ H s → wpAny (model X.prog X.w) X.A (eval e X.env) (EP X pins σ Q) X.xe s
def WST (st : Stmt) (D : Ends) (σ : L2.St) (H : Hp) : Prop := ∀ (pins : List (Addr × Obj)) (s : Shared), 1 ≤ s.toks → Inv X pins σ H s → wpAny (model X.prog X.w) X.A (exec st X.env) (SP X pins D) X.xe s
def WSsT (st : List Stmt) (D : Ends) (σ : L2.St) (H : Hp) : Prop := ∀ (pins : List (Addr × Obj)) (s : Shared), 1 ≤ s.toks → Inv X pins σ H s → wpAny (model X.prog X.w) X.A (execs st X.env) (SP X pins D) X.xe s
end
section
variable {X : Cx} {B : Bs} {e : Expr} {st : Stmt} {ss : List Stmt}
theorem pet_wet : PET X e (WET X e) := fun pins s σ H Q h0 I h => h pins s h0 I
theorem pst_wst : PST X st (WST X st) := fun pins s σ H D h0 I h => h pins s h0 I
theorem psst_wsst : PSsT X ss (WSsT X ss) := fun pins s σ H D h0 I h => h pins s h0 I
theorem wst_of {t : TS} {σ : L2.St} {H : Hp} {D : Ends} (h : PST X st t) (q : t D σ H) : WST X st D σ H := fun pins s h0 I => h pins s σ H D h0 I q
theorem wsst_of {t : TS} {σ : L2.St} {H : Hp} {D : Ends} (h : PSsT X ss t) (q : t D σ H) : WSsT X ss D σ H := fun pins s h0 I => h pins s σ H D h0 I q
theorem WET.imp {σ : L2.St} {H : Hp} {Q Q' : VK} (h : WET X e σ H Q) (q : ∀ v H', Q v H' → Q' v H') : WET X e σ H Q' := fun pins s h0 I => thn (h pins s h0 I) fun u s' ⟨v, H', I', r, k⟩ => ⟨v, H', I', r, q v H' k⟩
end
structure EAT (X : Cx) (B : Bs) (e : Expr) (t : TEA) : Prop where
  run : ∀ ad F H s σ Q, Rl B ad F H s σ → t s Q → WET X e σ H (Post B ad F σ Q)
structure SAT (X : Cx) (B : Bs) (st : Stmt) (t : TSA) : Prop where
  run : ∀ D s, t D s → ∀ ad F H σ, Rl B ad F H s σ → WST X st (liftD B D) σ H
structure SST (X : Cx) (B : Bs) (st : List Stmt) (t : TSA) : Prop where
  run : ∀ D s, t D s → ∀ ad F H σ, Rl B ad F H s σ → WSsT X st (liftD B D) σ H
section
variable {X : Cx} {B : Bs} {a b c e o : Expr} {st : Stmt} {ss body orelse : List Stmt} {t u u0 : TSA} {ta tb tc to : TEA} {tx : TTA} {y w : Str} {z : Int} {i j k l : Nat} {c0 c1 c2 c3 apos pos p p2 ip : Pos}
theorem sst_of (h : SS X B ss t) : SST X B ss t := ⟨fun D s h' ad F H σ r pins sh _ I => h.run D s h' ad F H σ r pins sh I⟩
theorem sst_one (h : SAT X B st t) : SST X B [st] t := ⟨fun D s h' ad F H σ r => wsst_of (CwR.psst_one pst_wst) (h.run D s h' ad F H σ r)⟩
theorem sat_if (hc : ET X B c tx) (h1 : SST X B body t) (h2 : SST X B orelse u) : SAT X B (.If c body orelse pos) (ifA tx t u) := ⟨fun D s h ad F H σ r => wst_of (CwR.pst_if pt_wt psst_wsst psst_wsst) ((hc.run ad F H s σ _ r h).imp fun b H1 q => by
  obtain ⟨ad1, F1, s1, e1, k1, r1, q⟩ := q
  cases b with
  | true => rw [if_pos rfl] at q; exact iteT (h1.run D s1 q ad1 F1 H1 σ r1)
  | false => exact iteF (h2.run D s1 q ad1 F1 H1 σ r1))⟩
/-- if a == z: .. else: .. : behind the test a token is out -/
theorem sa_ifT (heq : OpT X B (compareOp .Eq) (eqT false)) (ha : EA X B a ta) (h1 : SST X B body t) (h2 : SST X B orelse u0) (hm : behindInMarks .Eq (.Constant (.int z) i c0) = false := by first | exact nomark _ | rfl) :
    SA X B (.If (.Compare a [.Eq] [.Constant (.int z) i c0] p) body orelse ip) (ifA (opT (eqT false) ta (cstA (.int z))) t u0) := ⟨fun D s h ad F H σ r pins sh I => by
  refine wpAny_If (wpAny_isTrue_Compare1 (thn ((ha.run ad F H s σ _ r h) pins sh I) fun v s1 ⟨u, H1, I1, ru, q⟩ => ?_) hm)
  obtain ⟨ad1, F1, x, a1, e1, k1, r1, hx, q⟩ := q
  refine wpAny_Constant_int ?_
  obtain ⟨b, rr, q0, q1, q2⟩ := heq ad1 F1 H1 a1 σ x (.d (.int z)) u (.int z) (fun b s1 => if b = true then t D s1 else u0 D s1) r1 hx (show Da F1 (.int z) (.int z) from rfl) q
  refine wpAny_mono (PySem.wpAny_toks (q1 pins { s1 with toks := s1.toks + 1 } σ H1 u (.int z) v (.int z s1.toks) (fun x' H' => x' = .bl b ∧ H' = H1) (I1.tok _) ru ⟨_, rfl⟩ (q2 _ ⟨rfl, rfl⟩))) (fun c s3 g => ?_) fun _ _ g => g.2
  obtain ⟨hk, x', H', I3, rc, ex, eh⟩ := g
  subst ex
  rw [eh] at I3
  cases rc
  refine wpAny_truthy_bool ?_
  cases b with
  | false => exact h2.run D a1 q0 ad1 F1 H1 σ r1 pins s3 (by have : s1.toks + 1 ≤ s3.toks := hk; omega) I3
  | true => exact h1.run D a1 q0 ad1 F1 H1 σ r1 pins s3 (by have : s1.toks + 1 ≤ s3.toks := hk; omega) I3⟩
theorem eat_repl1 (ho : EA X B o to) (hyw : (y == w) = false := by decide)
    (hst : starEach [.Constant (.str y) j c1, .Constant (.str w) k c2, .Constant (.int 1) l c3] X.env = [(false, eval (.Constant (.str y) j c1) X.env), (false, eval (.Constant (.str w) k c2) X.env), (false, eval (.Constant (.int 1) l c3) X.env)] := by rfl)
    (hbase : attributeBase o "replace" X.env (eval o X.env) = eval o X.env := by rfl) (hline : (apos.endLine == pos.line) = true := by rfl) :
    EAT X B (.Call (.Attribute o "replace" apos) [.Constant (.str y) j c1, .Constant (.str w) k c2, .Constant (.int 1) l c3] [] pos) (repl1A y w to) := ⟨fun ad F H s σ Q r h pins sh h0 I =>
  pet_repl1 pe_we hyw hst hbase hline pins sh σ H _ h0 I ((ho.run ad F H s σ _ r h).imp fun v2 H2 q => by
    obtain ⟨ad2, F2, y2, a2, e2, k2, r2, hy, z2, hz, hb, q⟩ := q
    obtain rfl := AVal.str?_of hz
    exact ⟨z2, hy, hb, ad2, F2, .d (.str (repl1 z2 y w)), a2, e2, k2, r2, rfl, q⟩)⟩
theorem pst_asg {tg e : Expr} {te : TE} {g : TG} (he : PET X e te) (hg : PG X tg g) (hs : swapsWithSole [tg] e pos.line X.env = pure false := by rfl) (hw : swappedStores [tg] e X.env = pure none := by rfl)
    (h1 : (assignEach [tg] X.env).map (·.2) = [assign tg X.env] := by rfl) : PST X (.Assign [tg] e pos) (tAsg te g) := by
  intro pins s σ H D h0 I h
  refine wpAny_Assign_stores (thn (he pins s σ H _ h0 I h) fun v s1 ⟨x, H1, I1, r1, q1⟩ => ?_) hs hw
  rw [h1]
  exact thn (hg.run pins s1 σ H1 x v _ I1 r1 q1) fun _ s2 q => q
theorem sat_putL (hv : EAT X B c tc) (ho : EA X B o ta) (hi : EA X B e tb) (hs : swapsWithSole [.Subscript o e p2] c pos.line X.env = pure false := by rfl) (hw : swappedStores [.Subscript o e p2] c X.env = pure none := by rfl)
    (h1 : (assignEach [.Subscript o e p2] X.env).map (·.2) = [assign (.Subscript o e p2) X.env] := by rfl)
    (ha : ∀ v, assign (.Subscript o e p2) X.env v = (do
      let ov ← holding [v] (eval o X.env)
      let iv ← holding [v, ov] (eval e X.env)
      standAt p2
      holding [v, ov, iv] (setItem ov iv v)
      release [v, ov, iv] []) := by intro _; rfl)   : SAT X B (.Assign [.Subscript o e p2] c pos) (putL tc ta tb) := ⟨fun D s h ad F H σ r =>
  wst_of (pst_asg pet_wet (pg_sub pe_we pe_we set_list ha) hs hw h1) ((hv.run ad F H s σ _ r h).imp fun w H1 q => by
    obtain ⟨ad1, F1, v, s1, e1, k1, r1, hv1, q⟩ := q
    refine (ho.run ad1 F1 H1 s1 σ _ r1 q).imp fun u H2 q => ?_
    obtain ⟨ad2, F2, x, s2, e2, k2, r2, hx, q⟩ := q
    refine (hi.run ad2 F2 H2 s2 σ _ r2 q).imp fun z H3 q => ?_
    obtain ⟨ad3, F3, y, s3, e3, k3, r3, hy, i, ei, d, ed, qq⟩ := q
    have := AVal.int?_of ei
    subst this
    have := AVal.data?_of ed
    subst this
    obtain rfl : z = .int i := hy
    have hd : Da F3 d w := Da.mono (k2.trans k3) hv1
    have hx3 := hx.mono e3 k3
    have node : ∀ {n pt q ts t p vs}, NodeAt ad3 F3 H3 s3 u n pt .lst q ts t p vs → (onSome (ixN ts.length i) fun j => D.nx (putT s3 n pt q t (ts.set j (.d d)))) → rSetL u (.int i) w H3 fun H3 => (liftD B D).nx σ H3 := fun {n pt q ts t p vs} N h => by
      obtain ⟨j, hj, h⟩ := h
      have hval := N.val
      subst hval
      refine ⟨q, vs, i, j, rfl, rfl, N.ho, by rw [N.kids.length]; exact hj, ad3, F3, _, r3.mutT (k' := .lst) (Loose.nil r3) N rfl (fun b => ?_) (N.kids.setAt hd j) trivial, h⟩
      have hjl := ixN_lt hj
      have hg : ts[j]? = some ts[j] := List.getElem?_eq_getElem hjl
      have := cntL_set (u := .d d) hg b
      have : (Tr.d d).addrs.count b = 0 := rfl
      omega
    cases x with
    | d _ => exact qq.elim
    | s _ _ => exact qq.elim
    | a p n pt =>
      obtain ⟨n', pt', q', ts, t0, p', vs, N, h⟩ := onT_ok (k := fun n pt q ts t => onSome (ixN ts.length i) fun j => D.nx (putT s3 n pt q t (ts.set j (.d d)))) r3 hx3 qq
      exact node N h
    | r n =>
      obtain ⟨c, hc, qq⟩ := qq
      obtain ⟨p, hp, rfl⟩ := hx3
      cases c with
      | lst ds =>
        obtain ⟨j, hj, qq⟩ := qq
        obtain ⟨_, _, vs, g1, g2⟩ := r3.cel n p _ hp hc
        exact ⟨p, vs, i, j, rfl, rfl, g1, by rw [g2.length]; exact hj, ad3, F3, _, r3.put (c := .lst (ds.set j d)) hp hc rfl ⟨_, upd_same, DaAll.setAt (ds := ds) hd j g2⟩, qq⟩
      | tr t => cases t with
        | d _ => exact qq.elim
        | nd k q0 ts => cases k with
          | lst =>
            obtain ⟨_, _, g1, g2⟩ := r3.cel n p _ hp hc
            cases g1
            obtain ⟨_, vs, g3, g4, g5⟩ := g2.node
            exact node (n := n) (pt := []) (q := p) (ts := ts) (t := .nd .lst p ts) (p := p) (vs := vs) ⟨hc, hp, rfl, rfl, g3, g4, g5, g2⟩ qq
          | tup => exact qq.elim
          | dct _ => exact qq.elim
          | dctT _ => exact qq.elim
          | obj _ _ _ => exact qq.elim
      | _ => exact qq.elim)⟩
end
end Kr
/-! layer A75 -/
/-! ## a node of three things is taken apart -/
/-! layer A76 -/
/-! ## a text backwards -/
namespace Kr
open PySem PySem.Spec PyProof.Rows L2 PySem.Builtin PySem.Builtin.Str
def revT (z : Str) : Str := ⟨((strSliceIndices none none (-1) z.length).filterMap (z.cps[·]?)).toArray⟩
theorem revT_len (z : Str) : (revT z).length = z.length := step_rev_len z 0
theorem revT_mem {z : Str} {c : Nat} (h : c ∈ (revT z).cps.toList) : c ∈ z.cps.toList := by
  have h : c ∈ ((strSliceIndices none none (-1) z.length).filterMap (z.cps[·]?)).toArray.toList := h
  rw [List.toList_toArray] at h
  obtain ⟨i, _, hi⟩ := List.mem_filterMap.mp h
  obtain ⟨hl, rfl⟩ := Array.getElem?_eq_some_iff.mp hi
  exact Array.getElem_mem_toList hl
def tRevT (te : TE) : TE := fun σ H Q => te σ H fun x H1 => ∃ z, x = .str z ∧ z.length ≤ sizeLine ∧ Q (.str (revT z)) H1
section
variable {X : Cx} {B : Bs}
theorem pe_revT {e : Expr} {te : TE} {k : Nat} {p1 p2 p3 pos : Pos} (he : PE X e te) : PE X (.Subscript e (.Slice none none (some (.UnaryOp .USub (.Constant (.int 1) k p1) p2)) p3) pos) (tRevT te) := by
  refine ⟨fun pins s σ H Q I h => ?_⟩
  refine Subscript_ (thn (he.run pins s σ H _ I h) fun v s1 ⟨x, H1, I1, r1, q1⟩ => ?_)
  obtain ⟨z, ex, hz, q⟩ := q1
  subst ex
  obtain ⟨tz, rfl⟩ := r1
  have hst : PO X (some (.UnaryOp .USub (.Constant (.int 1) k p1) p2)) (tPart (tUn (rU fun i => .int (-i)) (tC (.int 1)))) := po_some (pe_un un_neg pe_int)
  refine wpAny_Slice (thn (po_none.run pins s1 σ H1 (fun o H2 => o = none ∧ H2 = H1) I1 ⟨rfl, rfl⟩) fun vl s2 ⟨l, H2, I2, pl, el, e2⟩ => ?_)
  subst el e2
  refine thn (po_none.run pins s2 σ H2 (fun o H3 => o = none ∧ H3 = H2) I2 ⟨rfl, rfl⟩) fun vu s3 ⟨u, H3, I3, pu, eu, e3⟩ => ?_
  subst eu e3
  refine thn (hst.run pins s3 σ H3 (fun o H4 => o = some (-1) ∧ H4 = H3) I3 ⟨1, rfl, -1, rfl, rfl, rfl⟩) fun vs s4 ⟨o, H4, I4, ps, eo, e4⟩ => ?_
  subst eo e4
  have I5 : Inv X pins σ H4 { s4 with heap := s4.heap.push { cls := .type "slice", data := .fields #[vl, vu, vs] } } := I4.kept (t' := s4.toks) fun b ob q => Heap.get?_push_of_some _ q
  cases pl
  cases pu
  obtain ⟨lp, rfl, hlp⟩ := IsPart.raw ps
  obtain ⟨tk, rfl⟩ : ∃ tk, lp = some (-1, tk) := by
    cases lp with
    | none => cases hlp
    | some p => exact ⟨p.2, by obtain ⟨a, b⟩ := p; cases hlp; rfl⟩
  refine tail_any (ops := [.str z tz, .ref s4.heap.objs.size]) (typeIs_str _ _ _) (F.slot_str_getitem.lookup) ?_ (by with_unfolding_all rfl)
  refine wpAny_getItem_str_slice (l := none) (u := none) (st := some (-1, tk)) ⟨_, Heap.get?_push_size _ rfl, rfl, rfl⟩ (show ((-1 : Int) == 0) = false by decide) ?_
  show Made.post (Made.str (revT z)) _ _
  exact ⟨by rw [revT_len]; exact hz, .str _, H4, I5.tok _, ⟨_, rfl⟩, q⟩
def revS (ta : TEA) : TEA := fun s Q => ta s fun x s1 => onSome x.str? fun z => z.length ≤ sizeLine ∧ Q (.d (.str (revT z))) s1
theorem ea_revS {a : Expr} {ta : TEA} {kk : Nat} {p1 p2 p3 pos : Pos} (ha : EA X B a ta) : EA X B (.Subscript a (.Slice none none (some (.UnaryOp .USub (.Constant (.int 1) kk p1) p2)) p3) pos) (revS ta) := ⟨fun ad F H s σ Q r t =>
  we_of (pe_revT pe_we) ((ha.run ad F H s σ _ r t).imp fun v H1 q => by
    obtain ⟨ad1, F1, x, s1, e1, k1, r1, hv, z, hz, hl, q⟩ := q
    obtain rfl := AVal.str?_of hz
    exact ⟨z, hv, hl, ad1, F1, .d (.str (revT z)), s1, e1, k1, r1, rfl, q⟩)⟩
end
end Kr
/-! layer A77 -/
/-! ## str of any data -/
namespace Kr
open PySem L2 PySem.Spec PyProof.Rows
def strOfX : PyData → Str
  | .str z => z
  | d => d.shown
structure StrOk (d : PyData) : Prop where
  p : rpD d = true
  s : d.showable = true
  n : d.depth ≤ 60
  z : d.shown.length ≤ sizeLine
  k : d.hasDict = false ∨ d = .dict []
theorem ra_nil {h : Heap} {vs : List Value} {as : List Addr} (r : ReadsAll h vs [] as) : as = [] := by cases r; rfl
def strXA (xs : List AVal) : TEA := fun s Q => one (fun x => onSome x.dat? fun d => ((∃ z, d = .str z) ∨ StrOk d) ∧ Q (.d (.str (strOfX d))) s) xs
section
variable {X : Cx} {B : Bs}
theorem cr_strX (hg : X.A.guards = some []) (hu : X.A.units + 64 < cLine) : CallR X (.type "str") (fun vs H Q => ∃ v d F, vs = [v] ∧ Da F d v ∧ Same F H ∧ ((∃ z, d = .str z) ∨ StrOk d) ∧ Q (.str (strOfX d)) H) := by
  intro pins s σ H vs us Q I r h
  obtain ⟨v, d, F, rfl, hd, sF, ok, q⟩ := h
  obtain ⟨u, rfl, hu1⟩ := r.one
  have fin : ∀ (h' : Heap) (t : Tok) (tk : Nat), (∀ b o, s.heap.get? b = some o → h'.get? b = some o) → EP X pins σ Q (.str (strOfX d) t) { s with heap := h', toks := tk } := fun h' t tk k => ⟨.str (strOfX d), H, I.kept k, ⟨_, rfl⟩, q⟩
  have here : ∀ (t : Tok) (tk : Nat), EP X pins σ Q (.str (strOfX d) t) { s with toks := tk } := fun t tk => fin s.heap t tk fun _ _ e => e
  rcases ok with ⟨z, rfl⟩ | ok
  · obtain rfl := (show v = .str z from hd)
    obtain ⟨t, rfl⟩ := (show ∃ t, u = Value.str z t from hu1)
    exact PySem.P.str_of_str (here t s.toks)
  have hn := ok.n
  obtain ⟨hk, as0, bs0, rd0, hx1, hx2⟩ := da_repr (P := X.prog) (w := X.w) (h := s.heap) I.hok sF d hd hu1 ok.p ok.s ok.z
  rcases hk with hf | ⟨a, rfl, b⟩
  · cases d with
    | none =>
      obtain rfl := (show v = .non from hd)
      obtain rfl := (show u = Value.none from hu1)
      have := here s.toks (s.toks + 1)
      simp only [strOfX, PyData.shown] at this
      exact PySem.P.str_of_none this
    | bool b =>
      obtain rfl := (show v = .bl b from hd)
      obtain rfl := (show u = Value.bool b from hu1)
      have := here s.toks (s.toks + 1)
      simp only [strOfX, PyData.shown] at this
      exact PySem.P.str_of_bool this
    | int i =>
      obtain rfl := (show v = .int i from hd)
      obtain ⟨t, rfl⟩ := (show ∃ t, u = Value.int i t from hu1)
      have := here s.toks (s.toks + 1)
      simp only [strOfX, PyData.shown] at this
      exact PySem.P.str_of_int (by have := ok.s; simpa [PyData.showable] using this) this
    | str x =>
      obtain rfl := (show v = .str x from hd)
      obtain ⟨t, rfl⟩ := (show ∃ t, u = Value.str x t from hu1)
      exact PySem.P.str_of_str (here t s.toks)
    | _ => cases hf
  · have e : strOfX d = d.shown := by
      cases b <;> rfl
    rw [e] at fin
    refine PySem.str_of_reads rd0 ok.s (fun hh => ?_) hg (by omega) (fun _ _ e => e) (fun h' u tk k => fin h' u tk k) ok.z
    rcases ok.k with h | rfl
    · rw [h] at hh; cases hh
    · cases b with
      | dct h1 h2 h3 h4 h5 =>
        have h4 := h4
        cases rd0 with
        | dict g1 g2 g3 g4 g5 =>
          rw [ra_nil g4, ra_nil g5]
          intro hm
          simp only [List.append_nil, List.mem_singleton] at hm
          subst hm
          simp at h4
theorem c_strX (hg : X.A.guards = some []) (hu : X.A.units + 64 < cLine) : CalA X B (.type "str") strXA := fun ad F H s σ xs us Q r hp t => by
  obtain ⟨x, u, rfl, rfl, hx, t⟩ := one_ok t hp
  obtain ⟨d, e, ok, q⟩ := t
  have := AVal.dat?_of e
  subst this
  exact ⟨_, cr_strX hg hu, u, d, F, rfl, hx, r.fh, ok, .here (x := .d (.str (strOfX d))) r rfl q⟩
end
end Kr
namespace Kr
open PySem L2
def topS (i : Nat) : Stmt := PySem.Challenge.pw_keyrooms_k51_texts_of_no_house.main.body.getD i (.Pass ⟨0, 0, 0, 0⟩)
abbrev s_is_kind : Stmt := topS 15
theorem sc_is_kind : FnScope ["thing", "sign"] ["thing"] (defScope s_is_kind) := ⟨rfl, rfl, rfl, by decide +kernel, rfl, by decide +kernel, by decide +kernel⟩
abbrev s_are_keys : Stmt := topS 16
theorem sc_are_keys : FnScope ["thing", "one"] ["thing"] (defScope s_are_keys) := ⟨rfl, rfl, rfl, by decide +kernel, rfl, by decide +kernel, by decide +kernel⟩
abbrev s_is_room : Stmt := topS 17
theorem sc_is_room : FnScope ["thing"] ["thing"] (defScope s_is_room) := ⟨rfl, rfl, rfl, by decide +kernel, rfl, by decide +kernel, by decide +kernel⟩
abbrev s_is_house : Stmt := topS 18
theorem sc_is_house : FnScope ["thing", "room"] ["thing"] (defScope s_is_house) := ⟨rfl, rfl, rfl, by decide +kernel, rfl, by decide +kernel, by decide +kernel⟩
abbrev s_show_keys : Stmt := topS 20
theorem sc_show_keys : FnScope ["keys"] ["keys"] (defScope s_show_keys) := ⟨rfl, rfl, rfl, by decide +kernel, rfl, by decide +kernel, by decide +kernel⟩
abbrev s_show_room : Stmt := topS 21
theorem sc_show_room : FnScope ["room"] ["room"] (defScope s_show_room) := ⟨rfl, rfl, rfl, by decide +kernel, rfl, by decide +kernel, by decide +kernel⟩
abbrev s_show_house : Stmt := topS 22
theorem sc_show_house : FnScope ["house", "room"] ["house"] (defScope s_show_house) := ⟨rfl, rfl, rfl, by decide +kernel, rfl, by decide +kernel, by decide +kernel⟩
abbrev s_keys_from : Stmt := topS 23
theorem sc_keys_from : FnScope ["text"] ["text"] (defScope s_keys_from) := ⟨rfl, rfl, rfl, by decide +kernel, rfl, by decide +kernel, by decide +kernel⟩
abbrev s_room_from : Stmt := topS 24
theorem sc_room_from : FnScope ["line", "locks", "mark", "keys"] ["line"] (defScope s_room_from) := ⟨rfl, rfl, rfl, by decide +kernel, rfl, by decide +kernel, by decide +kernel⟩
abbrev s_read_house : Stmt := topS 25
theorem sc_read_house : FnScope ["text", "lines", "found", "line"] ["text"] (defScope s_read_house) := ⟨rfl, rfl, rfl, by decide +kernel, rfl, by decide +kernel, by decide +kernel⟩
abbrev s_law_cell_at : Stmt := topS 27
theorem sc_law_cell_at : FnScope ["script", "k"] ["script", "k"] (defScope s_law_cell_at) := ⟨rfl, rfl, rfl, by decide +kernel, rfl, by decide +kernel, by decide +kernel⟩
abbrev s_law_numbers : Stmt := topS 28
theorem sc_law_numbers : FnScope ["cell", "many", "found", "rest", "stir", "k", "again"] ["cell", "many"] (defScope s_law_numbers) := ⟨rfl, rfl, rfl, by decide +kernel, rfl, by decide +kernel, by decide +kernel⟩
abbrev s_law_deck : Stmt := topS 29
theorem sc_law_deck : FnScope ["cell", "many"] ["cell", "many"] (defScope s_law_deck) := ⟨rfl, rfl, rfl, by decide +kernel, rfl, by decide +kernel, by decide +kernel⟩
abbrev s_law_take : Stmt := topS 30
theorem sc_law_take : FnScope ["deck", "many"] ["deck", "many"] (defScope s_law_take) := ⟨rfl, rfl, rfl, by decide +kernel, rfl, by decide +kernel, by decide +kernel⟩
abbrev s_law_kind : Stmt := topS 31
theorem sc_law_kind : FnScope ["deck", "few", "way", "some", "word", "k"] ["deck", "few"] (defScope s_law_kind) := ⟨rfl, rfl, rfl, by decide +kernel, rfl, by decide +kernel, by decide +kernel⟩
abbrev s_law_keys : Stmt := topS 32
theorem sc_law_keys : FnScope ["deck", "few", "most", "k"] ["deck", "few", "most"] (defScope s_law_keys) := ⟨rfl, rfl, rfl, by decide +kernel, rfl, by decide +kernel, by decide +kernel⟩
abbrev s_law_house : Stmt := topS 33
theorem sc_law_house : FnScope ["deck", "most", "locks", "few", "rooms", "k", "some", "j"] ["deck", "most", "locks"] (defScope s_law_house) := ⟨rfl, rfl, rfl, by decide +kernel, rfl, by decide +kernel, by decide +kernel⟩
abbrev s_law_keys_written : Stmt := topS 34
theorem sc_law_keys_written : FnScope ["keys"] ["keys"] (defScope s_law_keys_written) := ⟨rfl, rfl, rfl, by decide +kernel, rfl, by decide +kernel, by decide +kernel⟩
abbrev s_law_lines : Stmt := topS 35
theorem sc_law_lines : FnScope ["house", "lines", "locks", "keys"] ["house"] (defScope s_law_lines) := ⟨rfl, rfl, rfl, by decide +kernel, rfl, by decide +kernel, by decide +kernel⟩
abbrev s_law_alike : Stmt := topS 37
theorem sc_law_alike : FnScope ["found", "due", "k"] ["found", "due"] (defScope s_law_alike) := ⟨rfl, rfl, rfl, by decide +kernel, rfl, by decide +kernel, by decide +kernel⟩
abbrev s_law_kinds : Stmt := topS 38
theorem sc_law_kinds : FnScope ["words", "word", "sign"] ["words"] (defScope s_law_kinds) := ⟨rfl, rfl, rfl, by decide +kernel, rfl, by decide +kernel, by decide +kernel⟩
abbrev s_law_keys_read : Stmt := topS 39
theorem sc_law_keys_read : FnScope ["text", "found"] ["text"] (defScope s_law_keys_read) := ⟨rfl, rfl, rfl, by decide +kernel, rfl, by decide +kernel, by decide +kernel⟩
abbrev s_law_read : Stmt := topS 40
theorem sc_law_read : FnScope ["text", "lines", "keys", "rooms", "line", "first", "mark", "rest", "locks", "inside"] ["text"] (defScope s_law_read) := ⟨rfl, rfl, rfl, by decide +kernel, rfl, by decide +kernel, by decide +kernel⟩
abbrev s_law_asked : Stmt := topS 41
theorem sc_law_asked : FnScope ["text", "found", "caught", "e"] ["text"] (defScope s_law_asked) := ⟨rfl, rfl, rfl, by decide +kernel, rfl, by decide +kernel, by decide +kernel⟩
abbrev s_law_changed : Stmt := topS 42
theorem sc_law_changed : FnScope ["text", "deck", "at", "sign", "way"] ["text", "deck"] (defScope s_law_changed) := ⟨rfl, rfl, rfl, by decide +kernel, rfl, by decide +kernel, by decide +kernel⟩
abbrev s_law_lines_changed : Stmt := topS 43
theorem sc_law_lines_changed : FnScope ["text", "deck", "lines", "at", "words", "way"] ["text", "deck"] (defScope s_law_lines_changed) := ⟨rfl, rfl, rfl, by decide +kernel, rfl, by decide +kernel, by decide +kernel⟩
abbrev s_law_odd : Stmt := topS 44
theorem sc_law_odd : FnScope ["number", "some"] ["number"] (defScope s_law_odd) := ⟨rfl, rfl, rfl, by decide +kernel, rfl, by decide +kernel, by decide +kernel⟩
abbrev s_law_shown : Stmt := topS 45
theorem sc_law_shown : FnScope ["thing", "caught", "e"] ["thing"] (defScope s_law_shown) := ⟨rfl, rfl, rfl, by decide +kernel, rfl, by decide +kernel, by decide +kernel⟩
abbrev s_law_no_house : Stmt := topS 46
theorem sc_law_no_house : FnScope ["deck", "house", "keys", "rooms", "bad", "room", "some", "at"] ["deck", "house"] (defScope s_law_no_house) := ⟨rfl, rfl, rfl, by decide +kernel, rfl, by decide +kernel, by decide +kernel⟩
abbrev s_law : Stmt := topS 47
theorem sc_law : FnScope ["script", "k", "deck", "ways", "house", "text", "way", "due", "kept", "word", "found"] ["script"] (defScope s_law) := ⟨rfl, rfl, rfl, by decide +kernel, rfl, by decide +kernel, by decide +kernel⟩
set_option genInjectivity false
set_option genSizeOf false
set_option genSizeOfSpec false
structure Tx (K : PySem.W.Frag) (mg : Str → Option Value) where
  f_is_kind : Addr
  d_is_kind : FuncData
  F_is_kind : Fun K "is_kind" "is_kind" s_is_kind f_is_kind d_is_kind
  b_is_kind : Binds K d_is_kind ["thing"] []
  g_is_kind : mg "is_kind" = some (.ref f_is_kind)
  f_are_keys : Addr
  d_are_keys : FuncData
  F_are_keys : Fun K "are_keys" "are_keys" s_are_keys f_are_keys d_are_keys
  b_are_keys : Binds K d_are_keys ["thing"] []
  g_are_keys : mg "are_keys" = some (.ref f_are_keys)
  f_is_room : Addr
  d_is_room : FuncData
  F_is_room : Fun K "is_room" "is_room" s_is_room f_is_room d_is_room
  b_is_room : Binds K d_is_room ["thing"] []
  g_is_room : mg "is_room" = some (.ref f_is_room)
  f_is_house : Addr
  d_is_house : FuncData
  F_is_house : Fun K "is_house" "is_house" s_is_house f_is_house d_is_house
  b_is_house : Binds K d_is_house ["thing"] []
  g_is_house : mg "is_house" = some (.ref f_is_house)
  f_show_keys : Addr
  d_show_keys : FuncData
  F_show_keys : Fun K "show_keys" "show_keys" s_show_keys f_show_keys d_show_keys
  b_show_keys : Binds K d_show_keys ["keys"] []
  g_show_keys : mg "show_keys" = some (.ref f_show_keys)
  f_show_room : Addr
  d_show_room : FuncData
  F_show_room : Fun K "show_room" "show_room" s_show_room f_show_room d_show_room
  b_show_room : Binds K d_show_room ["room"] []
  g_show_room : mg "show_room" = some (.ref f_show_room)
  f_show_house : Addr
  d_show_house : FuncData
  F_show_house : Fun K "show_house" "show_house" s_show_house f_show_house d_show_house
  b_show_house : Binds K d_show_house ["house"] []
  g_show_house : mg "show_house" = some (.ref f_show_house)
  f_keys_from : Addr
  d_keys_from : FuncData
  F_keys_from : Fun K "keys_from" "keys_from" s_keys_from f_keys_from d_keys_from
  b_keys_from : Binds K d_keys_from ["text"] []
  g_keys_from : mg "keys_from" = some (.ref f_keys_from)
  f_room_from : Addr
  d_room_from : FuncData
  F_room_from : Fun K "room_from" "room_from" s_room_from f_room_from d_room_from
  b_room_from : Binds K d_room_from ["line"] []
  g_room_from : mg "room_from" = some (.ref f_room_from)
  f_read_house : Addr
  d_read_house : FuncData
  F_read_house : Fun K "read_house" "read_house" s_read_house f_read_house d_read_house
  b_read_house : Binds K d_read_house ["text"] []
  g_read_house : mg "read_house" = some (.ref f_read_house)
  f_law_cell_at : Addr
  d_law_cell_at : FuncData
  F_law_cell_at : Fun K "_law_cell_at" "_law_cell_at" s_law_cell_at f_law_cell_at d_law_cell_at
  b_law_cell_at : Binds K d_law_cell_at ["script", "k"] []
  g_law_cell_at : mg "_law_cell_at" = some (.ref f_law_cell_at)
  f_law_numbers : Addr
  d_law_numbers : FuncData
  F_law_numbers : Fun K "_law_numbers" "_law_numbers" s_law_numbers f_law_numbers d_law_numbers
  b_law_numbers : Binds K d_law_numbers ["cell", "many"] []
  g_law_numbers : mg "_law_numbers" = some (.ref f_law_numbers)
  f_law_deck : Addr
  d_law_deck : FuncData
  F_law_deck : Fun K "_law_deck" "_law_deck" s_law_deck f_law_deck d_law_deck
  b_law_deck : Binds K d_law_deck ["cell", "many"] []
  g_law_deck : mg "_law_deck" = some (.ref f_law_deck)
  f_law_take : Addr
  d_law_take : FuncData
  F_law_take : Fun K "_law_take" "_law_take" s_law_take f_law_take d_law_take
  b_law_take : Binds K d_law_take ["deck", "many"] []
  g_law_take : mg "_law_take" = some (.ref f_law_take)
  f_law_kind : Addr
  d_law_kind : FuncData
  F_law_kind : Fun K "_law_kind" "_law_kind" s_law_kind f_law_kind d_law_kind
  b_law_kind : Binds K d_law_kind ["deck", "few"] []
  g_law_kind : mg "_law_kind" = some (.ref f_law_kind)
  f_law_keys : Addr
  d_law_keys : FuncData
  F_law_keys : Fun K "_law_keys" "_law_keys" s_law_keys f_law_keys d_law_keys
  b_law_keys : Binds K d_law_keys ["deck", "few", "most"] []
  g_law_keys : mg "_law_keys" = some (.ref f_law_keys)
  f_law_house : Addr
  d_law_house : FuncData
  F_law_house : Fun K "_law_house" "_law_house" s_law_house f_law_house d_law_house
  b_law_house : Binds K d_law_house ["deck", "most", "locks"] []
  g_law_house : mg "_law_house" = some (.ref f_law_house)
  f_law_keys_written : Addr
  d_law_keys_written : FuncData
  F_law_keys_written : Fun K "_law_keys_written" "_law_keys_written" s_law_keys_written f_law_keys_written d_law_keys_written
  b_law_keys_written : Binds K d_law_keys_written ["keys"] []
  g_law_keys_written : mg "_law_keys_written" = some (.ref f_law_keys_written)
  f_law_lines : Addr
  d_law_lines : FuncData
  F_law_lines : Fun K "_law_lines" "_law_lines" s_law_lines f_law_lines d_law_lines
  b_law_lines : Binds K d_law_lines ["house"] []
  g_law_lines : mg "_law_lines" = some (.ref f_law_lines)
  f_law_alike : Addr
  d_law_alike : FuncData
  F_law_alike : Fun K "_law_alike" "_law_alike" s_law_alike f_law_alike d_law_alike
  b_law_alike : Binds K d_law_alike ["found", "due"] []
  g_law_alike : mg "_law_alike" = some (.ref f_law_alike)
  f_law_kinds : Addr
  d_law_kinds : FuncData
  F_law_kinds : Fun K "_law_kinds" "_law_kinds" s_law_kinds f_law_kinds d_law_kinds
  b_law_kinds : Binds K d_law_kinds ["words"] []
  g_law_kinds : mg "_law_kinds" = some (.ref f_law_kinds)
  f_law_keys_read : Addr
  d_law_keys_read : FuncData
  F_law_keys_read : Fun K "_law_keys_read" "_law_keys_read" s_law_keys_read f_law_keys_read d_law_keys_read
  b_law_keys_read : Binds K d_law_keys_read ["text"] []
  g_law_keys_read : mg "_law_keys_read" = some (.ref f_law_keys_read)
  f_law_read : Addr
  d_law_read : FuncData
  F_law_read : Fun K "_law_read" "_law_read" s_law_read f_law_read d_law_read
  b_law_read : Binds K d_law_read ["text"] []
  g_law_read : mg "_law_read" = some (.ref f_law_read)
  f_law_asked : Addr
  d_law_asked : FuncData
  F_law_asked : Fun K "_law_asked" "_law_asked" s_law_asked f_law_asked d_law_asked
  b_law_asked : Binds K d_law_asked ["text"] []
  g_law_asked : mg "_law_asked" = some (.ref f_law_asked)
  f_law_changed : Addr
  d_law_changed : FuncData
  F_law_changed : Fun K "_law_changed" "_law_changed" s_law_changed f_law_changed d_law_changed
  b_law_changed : Binds K d_law_changed ["text", "deck"] []
  g_law_changed : mg "_law_changed" = some (.ref f_law_changed)
  f_law_lines_changed : Addr
  d_law_lines_changed : FuncData
  F_law_lines_changed : Fun K "_law_lines_changed" "_law_lines_changed" s_law_lines_changed f_law_lines_changed d_law_lines_changed
  b_law_lines_changed : Binds K d_law_lines_changed ["text", "deck"] []
  g_law_lines_changed : mg "_law_lines_changed" = some (.ref f_law_lines_changed)
  f_law_odd : Addr
  d_law_odd : FuncData
  F_law_odd : Fun K "_law_odd" "_law_odd" s_law_odd f_law_odd d_law_odd
  b_law_odd : Binds K d_law_odd ["number"] []
  g_law_odd : mg "_law_odd" = some (.ref f_law_odd)
  f_law_shown : Addr
  d_law_shown : FuncData
  F_law_shown : Fun K "_law_shown" "_law_shown" s_law_shown f_law_shown d_law_shown
  b_law_shown : Binds K d_law_shown ["thing"] []
  g_law_shown : mg "_law_shown" = some (.ref f_law_shown)
  f_law_no_house : Addr
  d_law_no_house : FuncData
  F_law_no_house : Fun K "_law_no_house" "_law_no_house" s_law_no_house f_law_no_house d_law_no_house
  b_law_no_house : Binds K d_law_no_house ["deck", "house"] []
  g_law_no_house : mg "_law_no_house" = some (.ref f_law_no_house)
  f_law : Addr
  d_law : FuncData
  F_law : Fun K "law" "law" s_law f_law d_law
  b_law : Binds K d_law ["script"] []
  g_law : mg "law" = some (.ref f_law)
  m_isinstance : mg "isinstance" = none
  m_str : mg "str" = none
  m_len : mg "len" = none
  m_list : mg "list" = none
  m_tuple : mg "tuple" = none
  m_sorted : mg "sorted" = none
  m_range : mg "range" = none
  m_int : mg "int" = none
  m_bool : mg "bool" = none
  m_ValueError : mg "ValueError" = none
  m_max : mg "max" = none
  m_min : mg "min" = none
  c_LETTERS : Mg mg "LETTERS" (.str "abcdefghijklmnopqrstuvwxyz")
  c_LONGEST_KIND : Mg mg "LONGEST_KIND" (.int 4)
  c_MOST_LOCKS : Mg mg "MOST_LOCKS" (.int 4)
  E : ExT
  e_KeyroomError : Addr
  x_KeyroomError : mg "KeyroomError" = some (.ref e_KeyroomError)
  x_NoHouse : ExcF K mg "NoHouse" (E.c .house)
  q_NoHouse : PySem.W.excIn K (E.c .house) veTail' "ValueError.__new__" = true
  g_NoHouse : mg "NoHouse" = some (.ref (E.c .house))
  g_NoPlain : mg "NoPlain" = some (.ref (E.c .plain))
  g_NoOrder : mg "NoOrder" = some (.ref (E.c .order))
  g_NoNumber : mg "NoNumber" = some (.ref (E.c .number))
  g_NoKind : mg "NoKind" = some (.ref (E.c .kind))
  g_TooMany : mg "TooMany" = some (.ref (E.c .many))
  x_NoText : ExcF K mg "NoText" (E.c .text)
  q_NoText : PySem.W.excIn K (E.c .text) veTail' "ValueError.__new__" = true
  g_NoText : mg "NoText" = some (.ref (E.c .text))
  g_NoRow : mg "NoRow" = some (.ref (E.c .row))
  g_NoStep : mg "NoStep" = some (.ref (E.c .step))
  xC : ∀ n ∈ ([.house, .text] : List XN), ExcC K (E.c n)
  k_NoHouse : ∀ n ∈ ([.house, .text] : List XN), PySem.W.kitOne K (.ref (E.c n)) (.ref (E.c .house)) = some (subX n "NoHouse")
  k_NoKind : ∀ n ∈ ([.house, .text] : List XN), PySem.W.kitOne K (.ref (E.c n)) (.ref (E.c .kind)) = some (subX n "NoKind")
  k_NoNumber : ∀ n ∈ ([.house, .text] : List XN), PySem.W.kitOne K (.ref (E.c n)) (.ref (E.c .number)) = some (subX n "NoNumber")
  k_NoOrder : ∀ n ∈ ([.house, .text] : List XN), PySem.W.kitOne K (.ref (E.c n)) (.ref (E.c .order)) = some (subX n "NoOrder")
  k_NoPlain : ∀ n ∈ ([.house, .text] : List XN), PySem.W.kitOne K (.ref (E.c n)) (.ref (E.c .plain)) = some (subX n "NoPlain")
  k_NoRow : ∀ n ∈ ([.house, .text] : List XN), PySem.W.kitOne K (.ref (E.c n)) (.ref (E.c .row)) = some (subX n "NoRow")
  k_NoStep : ∀ n ∈ ([.house, .text] : List XN), PySem.W.kitOne K (.ref (E.c n)) (.ref (E.c .step)) = some (subX n "NoStep")
  k_TooMany : ∀ n ∈ ([.house, .text] : List XN), PySem.W.kitOne K (.ref (E.c n)) (.ref (E.c .many)) = some (subX n "TooMany")
  k_NoText : ∀ n ∈ ([.house, .text] : List XN), PySem.W.kitOne K (.ref (E.c n)) (.ref (E.c .text)) = some (subX n "NoText")
  k_ValueError : ∀ n ∈ ([.house, .text] : List XN), PySem.W.kitOne K (.ref (E.c n)) (.type "ValueError") = some (subX n "ValueError")
  h_KeyroomError : ∀ n ∈ ([.house, .text] : List XN), subX n "KeyroomError" = true → PySem.W.exmOne K (.ref (E.c n)) (.ref e_KeyroomError) = some true
/-! part base0 -/
open PySem L2
section
variable {P : Program} {w : World} {K : PySem.W.Frag} {mg : Str → Option Value} {base : Heap}
theorem ok_is_kind (T : Tx K mg) : FnOk P w K mg base CX0 1 T.f_is_kind T.d_is_kind ["thing"] (spF 1 (pre1 SzD) (fn1 fun d => .bool (isKindD d))) := by
  refine okF T.F_is_kind sc_is_kind fun X cdv A outer s H0 E vs F H ds Q hX hr hl hs ha hp q => ?_
  obtain ⟨d, rfl, hz⟩ := hp
  have hnx := SzD.noEx hz
  obtain ⟨v, rfl, hd⟩ := daAll1 ha
  subst hX
  have q : ∀ v F2 H2, Gr F H F2 H2 → Da F2 (.bool (isKindD d)) v → Q v H2 := q
  have hu := hr.units
  by_cases hstr : ∃ x, d = .str x
  · obtain ⟨x, rfl⟩ := hstr
    have hx : x.length ≤ 100000 := hz
    refine ss_cons (ws_ifD (DT.of_w (dw_or (dt_not (dt_val (de_isi T.m_isinstance T.m_str (de_v 0 hd) (kit_str _)))) (fun _ => dw_or1 (dt_not (dt_lele de_int (de_lenS T.m_len (de_v 0 hd) (sz100 hx)) (de_of (ve_glob T.c_LONGEST_KIND) rfl)))))) hs (fun hb F2 H2 g => ?_) (fun hb F2 H2 g => ?_))
    · refine ss_one (ws_retD de_bool g.fh fun v F3 H3 g3 hv => q v F3 H3 (g.trans g3) ?_)
      have : isKind x = false := by
        unfold isKind
        revert hb
        cases decide ((1 : Int) ≤ x.length) <;> cases decide ((x.length : Int) ≤ 4) <;> simp
      show Da F3 (.bool (isKind x)) v
      rw [this]; exact hv
    · refine ss_nil (ss_one (ws_retD (de_c (c_eqNil hu (de_lcIf (xs := x.cps.toList) [("sign", 1)] (lcok sc_is_kind (by decide +kernel)) (fun c => !decide (c ∈ letters.cps.toList)) (fun c => .str ⟨#[c]⟩) (di_str (de_v 0 (g.da hd))).i (sz100 hx) fun c hc v F' H' g' hv => ?_))) g.fh fun v F3 H3 g3 hv => q v F3 H3 (g.trans g3) ?_))
      · exact gb_name 1 sc_is_kind.nd ⟨rfl, rfl, fun _ _ _ _ _ => dt_c (c_notInSign (de_v 1 hv) (de_of (ve_glob T.c_LETTERS) rfl)), fun _ _ _ _ _ _ => de_v 1 hv⟩
      · have h1 : (decide ((1 : Int) ≤ x.length) && decide ((x.length : Int) ≤ 4)) = true := by
          revert hb
          cases (decide ((1 : Int) ≤ x.length) && decide ((x.length : Int) ≤ 4)) <;> simp
        show Da F3 (.bool (isKind x)) v
        unfold isKind
        rw [h1, Bool.true_and, ← filter_none]
        exact hv
  · have hk : isKindD d = false := by
      cases d with
      | str x => exact absurd ⟨x, rfl⟩ hstr
      | _ => rfl
    have hn : kitB (tyName d) "str" = some false := by
      rw [kit_str]
      cases d with
      | str x => exact absurd ⟨x, rfl⟩ hstr
      | _ => rfl
    refine ss_cons (ws_ifD (b := true) (DT.of_w (dw_or (cc := true) (dt_not (dt_val (de_isi T.m_isinstance T.m_str (de_v 0 hd) hn))) (fun z => nomatch z))) hs (fun hb F2 H2 g => ?_) (fun hb F2 H2 g => nomatch hb))
    refine ss_one (ws_retD de_bool g.fh fun v F3 H3 g3 hv => q v F3 H3 (g.trans g3) ?_)
    rw [hk]; exact hv
theorem x_is_kind {X : Cx} {σ : St} {F H : Hp} {e : Expr} {d : PyData} {p pos : Pos} {k : Nat} (T : Tx X.K X.mg) (hr : Room k X.A) (h : DE X e σ F H d) (hz : SzD d) (hk : 1 ≤ k := by decide) (hg : Gl X "is_kind" := by rfl) (l : Pl X e [] pos := by exact ⟨rfl, rfl⟩) :
    DE X (.Call (.Name "is_kind" p) [e] [] pos) σ F H (.bool (isKindD d)) := de_call (ok_is_kind T) (hr.mono hk) T.g_is_kind T.F_is_kind.kp T.b_is_kind (dl_cons h dl_nil l.he) rfl ⟨d, rfl, hz⟩ rfl hg (by decide) l
theorem ok_are_keys (T : Tx K mg) : FnOk P w K mg base CX0 2 T.f_are_keys T.d_are_keys ["thing"] (spF 1 (pre1 SzD) (fn1 fun d => .bool (areKeysD d))) := by
  refine okF T.F_are_keys sc_are_keys fun X cdv A outer s H0 E vs F H ds Q hX hr hl hs ha hp q => ?_
  obtain ⟨d, rfl, hz⟩ := hp
  have hnx := SzD.noEx hz
  obtain ⟨v, rfl, hd⟩ := daAll1 ha
  subst hX
  have q : ∀ v F2 H2, Gr F H F2 H2 → Da F2 (.bool (areKeysD d)) v → Q v H2 := q
  have hu := hr.units
  by_cases hstr : ∃ xs, d = .list xs
  · obtain ⟨xs, rfl⟩ := hstr
    refine ss_one (ws_retD (de_and (de_isi T.m_isinstance T.m_list (de_v 0 hd) (kit_list _)) fun _ => de_one (de_c (c_eqNil hu (de_lcIf (Dx := fun d => d) (xs := xs) [("one", 1)] (lcok sc_are_keys (by decide +kernel)) (fun d => !isKindD d) (fun d => d) (by rw [List.map_id']; exact (di_list (de_v 0 hd)).i) (sz100 hz.1) fun x hx v F' H' g' hv => ?_)))) hs fun v F3 H3 g3 hv => q v F3 H3 g3 ?_)
    · exact gb_name 1 sc_are_keys.nd ⟨rfl, rfl, fun _ _ _ _ _ => dt_not (dt_val (x_is_kind T hr (de_v 1 hv) (hz.2.mem hx))), fun _ _ _ _ _ _ => de_v 1 hv⟩
    · show Da F3 (.bool (xs.all isKindD)) v
      rw [filter_none, Bool.true_and] at hv
      exact hv
  · have hk : areKeysD d = false := by
      cases d with
      | list x => exact absurd ⟨x, rfl⟩ hstr
      | _ => rfl
    have hn : kitB (tyName d) "list" = some false := by
      rw [kit_list]
      cases d with
      | list x => exact absurd ⟨x, rfl⟩ hstr
      | _ => rfl
    refine ss_one (ws_retD (de_and (cc := true) (de_isi T.m_isinstance T.m_list (de_v 0 hd) hn) fun z => nomatch z) hs fun v F3 H3 g3 hv => q v F3 H3 g3 ?_)
    rw [hk]; exact hv
theorem x_are_keys {X : Cx} {σ : St} {F H : Hp} {e : Expr} {d : PyData} {p pos : Pos} {k : Nat} (T : Tx X.K X.mg) (hr : Room k X.A) (h : DE X e σ F H d) (hz : SzD d) (hk : 2 ≤ k := by decide) (hg : Gl X "are_keys" := by rfl) (l : Pl X e [] pos := by exact ⟨rfl, rfl⟩) :
    DE X (.Call (.Name "are_keys" p) [e] [] pos) σ F H (.bool (areKeysD d)) := de_call (ok_are_keys T) (hr.mono hk) T.g_are_keys T.F_are_keys.kp T.b_are_keys (dl_cons h dl_nil l.he) rfl ⟨d, rfl, hz⟩ rfl hg (by decide) l
end
open PySem L2
section
variable {P : Program} {w : World} {K : PySem.W.Frag} {mg : Str → Option Value} {base : Heap}
theorem ne2 {n : Nat} (h : n ≠ 2) (z : (!decide ((n : Int) = 2)) = false) : False := by
  simp at z; omega
theorem room_len : ∀ {ds : List PyData}, ds.length ≠ 2 → isRoomD (.tuple ds) = false
  | [], _ => rfl
  | [_], _ => rfl
  | [_, _], h => absurd rfl h
  | _ :: _ :: _ :: _, _ => rfl
theorem house_len : ∀ {ds : List PyData}, ds.length ≠ 2 → isHouseD (.tuple ds) = false
  | [], _ => rfl
  | [_], _ => rfl
  | [_, _], h => absurd rfl h
  | a :: b :: c :: r, _ => by cases b <;> rfl
theorem room_out {a b : PyData} {n : Int} (h : ((!true) || ((!decide ((2 : Int) = n)) || ((!areKeysD a) || (!areKeysD b)))) = true) (hn : n = 2) : isRoomD (.tuple [a, b]) = false := by
  subst hn
  simp only [isRoomD]
  revert h
  cases areKeysD a <;> cases areKeysD b <;> simp
theorem room_in {a b : PyData} {n : Int} (h : ((!true) || ((!decide ((2 : Int) = n)) || ((!areKeysD a) || (!areKeysD b)))) = false) : areKeysD a = true ∧ areKeysD b = true := by
  revert h
  cases areKeysD a <;> cases areKeysD b <;> simp
theorem room_is {ks : List Str} {b : PyData} (h1 : areKeysD (ksD ks) = true) (h2 : areKeysD b = true) : isRoomD (.tuple [ksD ks, b]) = ((decide ((1 : Int) ≤ (ks.map PyData.str).length) && decide (((ks.map PyData.str).length : Int) ≤ 4)) && decide (ks = srt ks)) := by
  simp only [isRoomD, h1, h2, Bool.true_and]
  simp only [ksD, strsOf_strs]
def isListD : PyData → Bool
  | .list _ => true
  | _ => false
theorem kit_list' (d : PyData) : kitB (tyName d) "list" = some (isListD d) := by rw [kit_list]; cases d <;> rfl
theorem house_out {a b : PyData} {n : Int} (h : ((!true) || ((!decide ((2 : Int) = n)) || ((!areKeysD a) || (!isListD b)))) = true) (hn : n = 2) : isHouseD (.tuple [a, b]) = false := by
  subst hn
  cases b with
  | list rs => simp only [isHouseD]; revert h; cases areKeysD a <;> simp [isListD]
  | _ => rfl
theorem house_in {a b : PyData} {n : Int} (h : ((!true) || ((!decide ((2 : Int) = n)) || ((!areKeysD a) || (!isListD b)))) = false) : areKeysD a = true ∧ ∃ rs, b = .list rs := by
  cases b with
  | list rs => revert h; cases areKeysD a <;> simp [isListD]
  | _ => simp [isListD] at h
theorem house_is {a : PyData} {rs : List PyData} (h1 : areKeysD a = true) : isHouseD (.tuple [a, .list rs]) = rs.all isRoomD := by simp only [isHouseD, h1, Bool.true_and]
theorem areKeysD_list {d : PyData} (h : areKeysD d = true) : ∃ ks : List Str, d = ksD ks ∧ (∀ k ∈ ks, isKind k = true) := by
  cases d with
  | list ds =>
    have h' : ds.all isKindD = true := h
    refine ⟨strsOf ds, congrArg PyData.list (strsOf_eq h'), fun k hk => ?_⟩
    have : PyData.str k ∈ ds := by rw [strsOf_eq h']; exact List.mem_map_of_mem hk
    exact (List.all_eq_true.mp h') _ this
  | _ => simp [areKeysD] at h
theorem tup2_cases (d : PyData) : (∃ a b, d = .tuple [a, b]) ∨ (∃ ds, d = .tuple ds ∧ ds.length ≠ 2) ∨ (kitB (tyName d) "tuple" = some false ∧ isRoomD d = false ∧ isHouseD d = false) := by
  cases d with
  | tuple ds =>
    match ds with
    | [a, b] => exact .inl ⟨a, b, rfl⟩
    | [] => exact .inr (.inl ⟨_, rfl, by simp⟩)
    | [_] => exact .inr (.inl ⟨_, rfl, by simp⟩)
    | _ :: _ :: _ :: _ => exact .inr (.inl ⟨_, rfl, by simp⟩)
  | _ => exact .inr (.inr ⟨kit_tuple _, rfl, rfl⟩)
theorem ok_is_room (T : Tx K mg) : FnOk P w K mg base CX0 3 T.f_is_room T.d_is_room ["thing"] (spF 1 (pre1 SzD) (fn1 fun d => .bool (isRoomD d))) := by
  refine okF T.F_is_room sc_is_room fun X cdv A outer s H0 E vs F H ds Q hX hr hl hs ha hp q => ?_
  obtain ⟨d, rfl, hz⟩ := hp
  have hnx := SzD.noEx hz
  obtain ⟨v, rfl, hd⟩ := daAll1 ha
  subst hX
  clear hl
  have q : ∀ v F2 H2, Gr F H F2 H2 → Da F2 (.bool (isRoomD d)) v → Q v H2 := q
  have hu := hr.units
  rcases tup2_cases d with ⟨a, b, rfl⟩ | ⟨ds, rfl, hne⟩ | ⟨hk, h0, _⟩
  · have hna := SzD.noEx hz.1
    have hnb := SzD.noEx hz.2.1
    refine ss_cons (ws_ifD (DT.of_w (dw_or (dt_not (dt_val (de_isi (bb := true) T.m_isinstance T.m_tuple (de_v 0 hd) (kit_tuple _)))) (fun _ => dw_or (dt_c (c_neI (de_lenT T.m_len (de_v 0 hd)) de_int))
      (fun _ => dw_or (dt_not (dt_val (x_are_keys T hr (de_ixT (d := a) (de_v 0 hd) de_int rfl) hz.1)))
      (fun _ => dw_or1 (dt_not (dt_val (x_are_keys T hr (de_ixT (d := b) (de_v 0 hd) de_int rfl) hz.2.1)))))))) hs (fun hb F2 H2 g => ?_) (fun hb F2 H2 g => ?_))
    · refine ss_one (ws_retD de_bool g.fh fun v F3 H3 g3 hv => q v F3 H3 (g.trans g3) ?_)
      rw [room_out hb rfl]; exact hv
    · obtain ⟨ha1, hb1⟩ := room_in hb
      obtain ⟨ks, rfl, hks⟩ := areKeysD_list ha1
      refine ss_nil (ss_one (ws_retD (de_and (de_lele de_int (de_lenL T.m_len (de_ixT (d := ksD ks) (de_v 0 (g.da hd)) de_int rfl)) (de_of (ve_glob T.c_MOST_LOCKS) rfl)) fun _ => de_one (de_c (c_is (c_eq hu (de_ixT (d := ksD ks) (de_v 0 (g.da hd)) de_int rfl) (de_sortedS T.m_sorted (de_ixT (d := ksD ks) (de_v 0 (g.da hd)) de_int rfl)) (lay_ks hks).shaped (lay_ks (fun k hk => hks k (mem_srt.mp hk))).shaped) (eqv_ks ks (srt ks))))) g.fh fun v F3 H3 g3 hv => q v F3 H3 (g.trans g3) ?_))
      rw [room_is ha1 hb1]; exact hv
  · refine ss_cons (ws_ifD (b := true) (DT.of_w (dw_or (cc := true) (dt_not (dt_val (de_isi (bb := true) T.m_isinstance T.m_tuple (de_v 0 hd) (kit_tuple _)))) (fun _ => dt_is_w (dw_or (cc := true) (dt_c (c_neI (de_lenT T.m_len (de_v 0 hd)) de_int)) (fun z => (ne2 hne z).elim)) (Bool.or_true _)))) hs (fun hb F2 H2 g => ?_) (fun hb F2 H2 g => nomatch hb))
    refine ss_one (ws_retD de_bool g.fh fun v F3 H3 g3 hv => q v F3 H3 (g.trans g3) ?_)
    rw [room_len hne]; exact hv
  · refine ss_cons (ws_ifD (b := true) (DT.of_w (dw_or (cc := true) (dt_not (dt_val (de_isi T.m_isinstance T.m_tuple (de_v 0 hd) hk))) (fun z => nomatch z))) hs (fun hb F2 H2 g => ?_) (fun hb F2 H2 g => nomatch hb))
    refine ss_one (ws_retD de_bool g.fh fun v F3 H3 g3 hv => q v F3 H3 (g.trans g3) ?_)
    rw [h0]; exact hv
theorem x_is_room {X : Cx} {σ : St} {F H : Hp} {e : Expr} {d : PyData} {p pos : Pos} {k : Nat} (T : Tx X.K X.mg) (hr : Room k X.A) (h : DE X e σ F H d) (hz : SzD d) (hk : 3 ≤ k := by decide) (hg : Gl X "is_room" := by rfl) (l : Pl X e [] pos := by exact ⟨rfl, rfl⟩) :
    DE X (.Call (.Name "is_room" p) [e] [] pos) σ F H (.bool (isRoomD d)) := de_call (ok_is_room T) (hr.mono hk) T.g_is_room T.F_is_room.kp T.b_is_room (dl_cons h dl_nil l.he) rfl ⟨d, rfl, hz⟩ rfl hg (by decide) l
theorem ok_is_house (T : Tx K mg) : FnOk P w K mg base CX0 4 T.f_is_house T.d_is_house ["thing"] (spF 1 (pre1 SzD) (fn1 fun d => .bool (isHouseD d))) := by
  refine okF T.F_is_house sc_is_house fun X cdv A outer s H0 E vs F H ds Q hX hr hl hs ha hp q => ?_
  obtain ⟨d, rfl, hz⟩ := hp
  have hnx := SzD.noEx hz
  obtain ⟨v, rfl, hd⟩ := daAll1 ha
  subst hX
  clear hl
  have q : ∀ v F2 H2, Gr F H F2 H2 → Da F2 (.bool (isHouseD d)) v → Q v H2 := q
  have hu := hr.units
  rcases tup2_cases d with ⟨a, b, rfl⟩ | ⟨ds, rfl, hne⟩ | ⟨hk, _, h0⟩
  · have hna := SzD.noEx hz.1
    have hnb := SzD.noEx hz.2.1
    refine ss_cons (ws_ifD (DT.of_w (dw_or (dt_not (dt_val (de_isi (bb := true) T.m_isinstance T.m_tuple (de_v 0 hd) (kit_tuple _)))) (fun _ => dw_or (dt_c (c_neI (de_lenT T.m_len (de_v 0 hd)) de_int))
      (fun _ => dw_or (dt_not (dt_val (x_are_keys T hr (de_ixT (d := a) (de_v 0 hd) de_int rfl) hz.1)))
      (fun _ => dw_or1 (dt_not (dt_val (de_isi T.m_isinstance T.m_list (de_ixT (d := b) (de_v 0 hd) de_int rfl) (kit_list' _))))))))) hs (fun hb F2 H2 g => ?_) (fun hb F2 H2 g => ?_))
    · refine ss_one (ws_retD de_bool g.fh fun v F3 H3 g3 hv => q v F3 H3 (g.trans g3) ?_)
      rw [house_out hb rfl]; exact hv
    · obtain ⟨hka, rs, rfl⟩ := house_in hb
      have hz2 : rs.length ≤ 100000 ∧ SzAll rs := hz.2.1
      refine ss_nil (ss_one (ws_retD (de_c (c_eqNil hu (de_lcIf (Dx := fun d => d) (xs := rs) [("room", 1)] (lcok sc_is_house (by decide +kernel)) (fun d => !isRoomD d) (fun d => d) (by rw [List.map_id']; exact (di_list (de_ixT (d := .list rs) (de_v 0 (g.da hd)) de_int rfl)).i) (sz100 hz2.1) fun x hx v F' H' g' hv => ?_))) g.fh fun v F3 H3 g3 hv => q v F3 H3 (g.trans g3) ?_))
      · exact gb_name 1 sc_is_house.nd ⟨rfl, rfl, fun _ _ _ _ _ => dt_not (dt_val (x_is_room T hr (de_v 1 hv) (hz2.2.mem hx))), fun _ _ _ _ _ _ => de_v 1 hv⟩
      · rw [house_is hka, ← filter_none]; exact hv
  · refine ss_cons (ws_ifD (b := true) (DT.of_w (dw_or (cc := true) (dt_not (dt_val (de_isi (bb := true) T.m_isinstance T.m_tuple (de_v 0 hd) (kit_tuple _)))) (fun _ => dt_is_w (dw_or (cc := true) (dt_c (c_neI (de_lenT T.m_len (de_v 0 hd)) de_int)) (fun z => (ne2 hne z).elim)) (Bool.or_true _)))) hs (fun hb F2 H2 g => ?_) (fun hb F2 H2 g => nomatch hb))
    refine ss_one (ws_retD de_bool g.fh fun v F3 H3 g3 hv => q v F3 H3 (g.trans g3) ?_)
    rw [house_len hne]; exact hv
  · refine ss_cons (ws_ifD (b := true) (DT.of_w (dw_or (cc := true) (dt_not (dt_val (de_isi T.m_isinstance T.m_tuple (de_v 0 hd) hk))) (fun z => nomatch z))) hs (fun hb F2 H2 g => ?_) (fun hb F2 H2 g => nomatch hb))
    refine ss_one (ws_retD de_bool g.fh fun v F3 H3 g3 hv => q v F3 H3 (g.trans g3) ?_)
    rw [h0]; exact hv
end
def tt_show_keys (m : Nat) : TSA := (seqA (ifA (nilT false (varA 0)) (retA (cstA (.str "-"))) nextA)
    (retA (joinA (cstA (.str " ")) (frzA (bltN sortedN (consL (varA 0) nilL))))))
def TT_show_keys : SpT := bodyT 0 (tt_show_keys)
theorem kk_show_keys {P : Program} {w : World} {K : PySem.W.Frag} {mg : Str → Option Value} {base : Heap} (T : Tx K mg) : FnOk P w K mg base CX0 1 T.f_show_keys T.d_show_keys ["keys"] (spA 1 (TT_show_keys)) :=
  okA T.F_show_keys sc_show_keys fun cdv A outer s H E B hr =>
    (ss_consA (sa_if (et_eqNil hr.units (ea_v 0)) (ss_oneA (sa_ret ea_str)) ss_nilA)
      (ss_oneA (sa_ret (ea_join ea_str (ea_frz (en_blt (c_sorted rfl) T.m_sorted (el_cons (ea_v 0) el_nil)))))))
def tt_show_room (m : Nat) : TSA := (retA (opA addA (opA addA (joinA (cstA (.str "+")) (opA ixA (varA 0) (cstA (.int 0)))) (cstA (.str ": "))) (callF TT_show_keys (consL (opA ixA (varA 0) (cstA (.int 1))) nilL))))
def TT_show_room : SpT := bodyT 0 (tt_show_room)
theorem kk_show_room {P : Program} {w : World} {K : PySem.W.Frag} {mg : Str → Option Value} {base : Heap} (T : Tx K mg) : FnOk P w K mg base CX0 2 T.f_show_room T.d_show_room ["room"] (spA 1 (TT_show_room)) :=
  okA T.F_show_room sc_show_room fun cdv A outer s H E B hr =>
    (ss_oneA (sa_ret (ea_op o_add (ea_op o_add (ea_join ea_str (ea_ix (hu1 hr) (ea_v 0) ea_int)) ea_str) (ea_callF (kk_show_keys T) (hr.mono (by decide)) T.g_show_keys T.F_show_keys.kp T.b_show_keys (el_cons (ea_ix (hu1 hr) (ea_v 0) ea_int) el_nil)))))
def tt_show_house (E : ExT) (W : PyData → AS → Prop) (m : Nat) : TSA := (seqA (ifA (notA (valA (callF (tF 1 (pre1 SzD) (fn1 fun d => .bool (isHouseD d))) (consL (varA 0) nilL)))) (raiseA W (E.c .house)) nextA)
    (retA (joinA (cstA (.str "\n")) (opA addA (frzA (lstN (consL (callF TT_show_keys (consL (opA ixA (varA 0) (cstA (.int 0))) nilL)) nilL))) (frzA (lcN (ioT (iterL (opA ixA (varA 0) (cstA (.int 1))))) (nameG 1) yesA (callF TT_show_room (consL (varA 1) nilL)) [1]))))))
def TT_show_house (E : ExT) : SpTX := bodyTX 1 (tt_show_house E)
theorem kk_show_house {P : Program} {w : World} {K : PySem.W.Frag} {mg : Str → Option Value} {base : Heap} (T : Tx K mg) : FnOk P w K mg base (L2.CX P w) 5 T.f_show_house T.d_show_house ["house"] (spAX 1 (TT_show_house T.E)) :=
  okAX T.F_show_house sc_show_house fun cdv A outer s H Ex B W hr tk hpo =>
    (ss_consA (sa_if (et_not (et_val (ea_callF (okF_A (ok_is_house T)) (hr.mono (by decide)) T.g_is_house T.F_is_house.kp T.b_is_house (el_cons (ea_v 0) el_nil)))) (ss_oneA (sa_raise rfl tk PySem.F.excBase_ValueError T.q_NoHouse T.x_NoHouse.g T.x_NoHouse.k T.x_NoHouse.raises)) ss_nilA)
      (ss_oneA (sa_ret (ea_join ea_str (ea_op o_add (ea_frz (en_lst (el_cons (ea_callF (kk_show_keys T) (hr.mono (by decide)) T.g_show_keys T.F_show_keys.kp T.b_show_keys (el_cons (ea_ix (hu1 hr) (ea_v 0) ea_int) el_nil)) el_nil))) (ea_frz (en_lc [("room", 1)] (lcok sc_show_house (by decide +kernel)) (IO.of (ia_list (ea_ix (hu1 hr) (ea_v 0) ea_int))) (fun _ _ _ _ _ => (gt_name 1 sc_show_house.nd)) (fun _ _ _ _ _ _ => (ea_callF (kk_show_room T) (hr.mono (by decide)) T.g_show_room T.F_show_room.kp T.b_show_room (el_cons (ea_v 1) el_nil))))))))))
def tt_keys_from (m : Nat) : TSA := (seqA (ifA (opT (eqT false) (varA 0) (cstA (.str "-"))) (retA (ownA (lstN nilL))) nextA)
    (retA (ownA (splitN (varA 0) (cstA (.str " "))))))
def TT_keys_from : SpT := bodyT 0 (tt_keys_from)
theorem kk_keys_from {P : Program} {w : World} {K : PySem.W.Frag} {mg : Str → Option Value} {base : Heap} (T : Tx K mg) : FnOk P w K mg base CX0 1 T.f_keys_from T.d_keys_from ["text"] (spA 1 (TT_keys_from)) :=
  okA T.F_keys_from sc_keys_from fun cdv A outer s H E B hr =>
    (ss_consA (sa_if (et_cmp (o_eq hr.units) (ea_v 0) ea_str) (ss_oneA (sa_ret (ea_own (en_lst el_nil)))) ss_nilA)
      (ss_oneA (sa_ret (ea_own (en_split (ea_v 0) ea_str)))))
def tt_room_from (m : Nat) : TSA := (seqA (asgA (partA (varA 0) (cstA (.str ": "))) (tup3G (nameG 1) (nameG 2) (nameG 3)))
    (retA (tupA (consL (frzA (splitN (varA 1) (cstA (.str "+")))) (consL (callF TT_keys_from (consL (varA 3) nilL)) nilL)))))
def TT_room_from : SpT := bodyT 3 (tt_room_from)
theorem kk_room_from {P : Program} {w : World} {K : PySem.W.Frag} {mg : Str → Option Value} {base : Heap} (T : Tx K mg) : FnOk P w K mg base CX0 2 T.f_room_from T.d_room_from ["line"] (spA 1 (TT_room_from)) :=
  okA T.F_room_from sc_room_from fun cdv A outer s H E B hr =>
    (ss_consA (sa_asg (ea_part (ea_v 0) ea_str) (gt_tup3 rfl (gt_name 1 sc_room_from.nd) (gt_name 2 sc_room_from.nd) (gt_name 3 sc_room_from.nd)))
      (ss_oneA (sa_ret (ea_tup (el_cons (ea_frz (en_split (ea_v 1) ea_str)) (el_cons (ea_callF (kk_keys_from T) (hr.mono (by decide)) T.g_keys_from T.F_keys_from.kp T.b_keys_from (el_cons (ea_v 3) el_nil)) el_nil))))))
def tt_read_house (E : ExT) (W : PyData → AS → Prop) (m : Nat) : TSA := (seqA (ifA (notA (valA (isiT "str" (varA 0)))) (raiseA W (E.c .text)) nextA)
    (seqA (setA 1 (frzA (splitN (varA 0) (cstA (.str "\n")))))
    (seqA (setA 2 (tupA (consL (callF TT_keys_from (consL (opA ixA (varA 1) (cstA (.int 0))) nilL)) (consL (frzA (lcN (ioT (iterL (slLo (varA 1) (cstA (.int 1))))) (nameG 3) yesA (callF TT_room_from (consL (varA 3) nilL)) [3])) nilL))))
    (seqA (ifA (orA (notA (valA (callF (tF 1 (pre1 SzD) (fn1 fun d => .bool (isHouseD d))) (consL (varA 2) nilL)))) (opT (eqT true) (callXF (TT_show_house E) W (consL (varA 2) nilL)) (varA 0))) (raiseA W (E.c .text)) nextA)
    (retA (varA 2))))))
def TT_read_house (E : ExT) : SpTX := bodyTX 3 (tt_read_house E)
theorem kk_read_house {P : Program} {w : World} {K : PySem.W.Frag} {mg : Str → Option Value} {base : Heap} (T : Tx K mg) : FnOk P w K mg base (L2.CX P w) 6 T.f_read_house T.d_read_house ["text"] (spAX 1 (TT_read_house T.E)) :=
  okAX T.F_read_house sc_read_house fun cdv A outer s H Ex B W hr tk hpo =>
    (ss_consA (sa_if (et_not (et_val (ea_isi (tn := "str") T.m_isinstance T.m_str (ea_v 0)))) (ss_oneA (sa_raise rfl tk PySem.F.excBase_ValueError T.q_NoText T.x_NoText.g T.x_NoText.k T.x_NoText.raises)) ss_nilA)
      (ss_consA (sa_set 1 sc_read_house.nd (ea_frz (en_split (ea_v 0) ea_str)))
      (ss_consA (sa_set 2 sc_read_house.nd (ea_tup (el_cons (ea_callF (kk_keys_from T) (hr.mono (by decide)) T.g_keys_from T.F_keys_from.kp T.b_keys_from (el_cons (ea_ix (hu1 hr) (ea_v 1) ea_int) el_nil)) (el_cons (ea_frz (en_lc [("line", 3)] (lcok sc_read_house (by decide +kernel)) (IO.of (ia_list (ea_slLo (ea_v 1) ea_int))) (fun _ _ _ _ _ => (gt_name 3 sc_read_house.nd)) (fun _ _ _ _ _ _ => (ea_callF (kk_room_from T) (hr.mono (by decide)) T.g_room_from T.F_room_from.kp T.b_room_from (el_cons (ea_v 3) el_nil))))) el_nil))))
      (ss_consA (sa_if (ET.of_w (ew_or (et_not (et_val (ea_callF (okF_A (ok_is_house T)) (hr.mono (by decide)) T.g_is_house T.F_is_house.kp T.b_is_house (el_cons (ea_v 2) el_nil)))) (ew_or1 (et_cmp (o_ne hr.units) (ea_callXF (kk_show_house T) (hr.mono (by decide)) T.g_show_house T.F_show_house.kp T.b_show_house tk (el_cons (ea_v 2) el_nil)) (ea_v 0))))) (ss_oneA (sa_raise rfl tk PySem.F.excBase_ValueError T.q_NoText T.x_NoText.g T.x_NoText.k T.x_NoText.raises)) ss_nilA)
      (ss_oneA (sa_ret (ea_v 2)))))))
def tt_law_cell_at (K : PySem.W.Frag) (m : Nat) : TSA := (seqA (ifA (opT ltT (varA 1) (scrLen K 0)) (retA (scrAt K 0 (varA 1))) nextA)
    (retA (cstA (.int 0))))
def TT_law_cell_at (K : PySem.W.Frag) : SpT := bodyT 0 (tt_law_cell_at K)
theorem kk_law_cell_at {P : Program} {w : World} {K : PySem.W.Frag} {mg : Str → Option Value} {base : Heap} (T : Tx K mg) : FnOk P w K mg base CX0 1 T.f_law_cell_at T.d_law_cell_at ["script", "k"] (spA 2 (TT_law_cell_at K)) :=
  okA T.F_law_cell_at sc_law_cell_at fun cdv A outer s H E B hr =>
    (ss_consA (sa_if (et_cmp o_lt (ea_v 1) (ea_scrLen 0 T.m_len)) (ss_oneA (sa_ret (ea_scrAt 0 (ea_v 1)))) ss_nilA)
      (ss_oneA (sa_ret ea_int)))
def tt_law_numbers (m : Nat) : TSA := (seqA (setA 2 (ownA (lstN nilL)))
    (seqA (setA 3 (varA 0))
    (seqA (setA 4 (opA modA (varA 0) (cstA (.int 2147483647))))
    (seqA (forA m (iterR1 (fun s Q => (varA 1) s fun x s1 => onSome x.int? fun j => -(2 ^ 62) ≤ j ∧ Q x s1)) (nameG 5) (ifA (andA (opT geT (varA 0) (opA powA (cstA (.int 10)) (cstA (.int 18)))) (opT gtT (varA 3) (cstA (.int 0)))) (seqA (dropA (mtL appendA (varA 2) (consL (opA modA (varA 3) (cstA (.int 64))) nilL)))
    (setA 3 (opA fdivA (varA 3) (cstA (.int 64))))) (seqA (setA 4 (opA modA (opA mulX (opA addA (opA addA (varA 4) (opA mulX (cstA (.int 7)) (varA 5))) (cstA (.int 3))) (cstA (.int 48271))) (cstA (.int 2147483647))))
    (seqA (setA 6 (opA modA (opA mulX (opA modA (opA mulX (varA 4) (varA 4)) (cstA (.int 2147483629))) (cstA (.int 69621))) (cstA (.int 2147483587))))
    (dropA (mtL appendA (varA 2) (consL (opA modA (opA fdivA (varA 6) (cstA (.int 8))) (cstA (.int 720720))) nilL)))))))
    (retA (varA 2))))))
def TT_law_numbers : SpT := bodyT 5 (tt_law_numbers)
theorem kk_law_numbers {P : Program} {w : World} {K : PySem.W.Frag} {mg : Str → Option Value} {base : Heap} (T : Tx K mg) : FnOk P w K mg base CX0 1 T.f_law_numbers T.d_law_numbers ["cell", "many"] (spA 2 (TT_law_numbers)) :=
  okA T.F_law_numbers sc_law_numbers fun cdv A outer s H E B hr =>
    (ss_consA (sa_set 2 sc_law_numbers.nd (ea_own (en_lst el_nil)))
      (ss_consA (sa_set 3 sc_law_numbers.nd (ea_v 0))
      (ss_consA (sa_set 4 sc_law_numbers.nd (ea_op o_mod (ea_v 0) ea_int))
      (ss_consA (sa_for PassesOwn.never rfl (ia_range1 T.m_range (ea_v 1)) (gt_name 5 sc_law_numbers.nd) (fun _ _ => (ss_oneA (sa_if (ET.of_w (ew_and (et_cmp o_ge (ea_v 0) (ea_op o_pow ea_int ea_int)) (ew_and1 (et_cmp o_gt (ea_v 3) ea_int)))) (ss_consA (sa_expr (ea_mtL PySem.F.slot_list_append PySem.F.type_list_append m_append (ea_v 2) (el_cons (ea_op o_mod (ea_v 3) ea_int) el_nil)))
      (ss_oneA (sa_set 3 sc_law_numbers.nd (ea_op o_fdiv (ea_v 3) ea_int)))) (ss_consA (sa_set 4 sc_law_numbers.nd (ea_op o_mod (ea_op o_mulX (ea_op o_add (ea_op o_add (ea_v 4) (ea_op o_mulX ea_int (ea_v 5))) ea_int) ea_int) ea_int))
      (ss_consA (sa_set 6 sc_law_numbers.nd (ea_op o_mod (ea_op o_mulX (ea_op o_mod (ea_op o_mulX (ea_v 4) (ea_v 4)) ea_int) ea_int) ea_int))
      (ss_oneA (sa_expr (ea_mtL PySem.F.slot_list_append PySem.F.type_list_append m_append (ea_v 2) (el_cons (ea_op o_mod (ea_op o_fdiv (ea_v 6) ea_int) ea_int) el_nil))))))))))
      (ss_oneA (sa_ret (ea_v 2)))))))
def tt_law_deck (m : Nat) : TSA := (retA (ownA (revN (callF TT_law_numbers (consL (varA 0) (consL (varA 1) nilL))))))
def TT_law_deck : SpT := bodyT 0 (tt_law_deck)
theorem kk_law_deck {P : Program} {w : World} {K : PySem.W.Frag} {mg : Str → Option Value} {base : Heap} (T : Tx K mg) : FnOk P w K mg base CX0 2 T.f_law_deck T.d_law_deck ["cell", "many"] (spA 2 (TT_law_deck)) :=
  okA T.F_law_deck sc_law_deck fun cdv A outer s H E B hr =>
    (ss_oneA (sa_ret (ea_own (en_rev (ea_callF (kk_law_numbers T) (hr.mono (by decide)) T.g_law_numbers T.F_law_numbers.kp T.b_law_numbers (el_cons (ea_v 0) (el_cons (ea_v 1) el_nil)))))))
def tt_law_take (m : Nat) : TSA := (seqA (ifA (nilT false (varA 0)) (retA (cstA (.int 0))) nextA)
    (retA (opA modA (mtL0 (fun x xs s Q => xs = [] ∧ popA x xs s Q) (varA 0)) (varA 1))))
def TT_law_take : SpT := bodyT 0 (tt_law_take)
theorem kk_law_take {P : Program} {w : World} {K : PySem.W.Frag} {mg : Str → Option Value} {base : Heap} (T : Tx K mg) : FnOk P w K mg base CX0 1 T.f_law_take T.d_law_take ["deck", "many"] (spA 2 (TT_law_take)) :=
  okA T.F_law_take sc_law_take fun cdv A outer s H E B hr =>
    (ss_consA (sa_if (et_eqNil hr.units (ea_v 0)) (ss_oneA (sa_ret ea_int)) ss_nilA)
      (ss_oneA (sa_ret (ea_op o_mod (ea_mtL0 PySem.F.slot_list_pop PySem.F.type_list_pop m_pop (ea_v 0)) (ea_v 1)))))
def tt_law_kind (m : Nat) : TSA := (seqA (setA 2 (callF TT_law_take (consL (varA 0) (consL (cstA (.int 16)) nilL))))
    (seqA (ifA (opT (eqT false) (varA 2) (cstA (.int 5))) (seqA (setA 3 (frzA (lstN (consL (cstA (.str "keys")) (consL (cstA (.str "room")) (consL (cstA (.str "open")) (consL (cstA (.str "back")) (consL (cstA (.str "new")) (consL (cstA (.str "hand")) (consL (cstA (.str "next")) (consL (cstA (.str "gone")) (consL (cstA (.str "all")) (consL (cstA (.str "buy")) (consL (cstA (.str "nth")) (consL (cstA (.str "most")) (consL (cstA (.str "best")) nilL))))))))))))))))
    (retA (opA ixA (opA addA (varA 3) (frzA (lstN (consL (cstA (.str "show")) (consL (cstA (.str "none")) (consL (cstA (.str "yes")) (consL (cstA (.str "few")) (consL (cstA (.str "shut")) nilL)))))))) (callF TT_law_take (consL (varA 0) (consL (cstA (.int 18)) nilL)))))) nextA)
    (seqA (ifA (opT (eqT false) (varA 2) (cstA (.int 6))) (retA (opA ixA (frzA (lstN (consL (cstA (.str "abcd")) (consL (cstA (.str "abce")) (consL (cstA (.str "abcz")) (consL (cstA (.str "zz")) (consL (cstA (.str "zy")) (consL (cstA (.str "zbcd")) (consL (cstA (.str "keya")) (consL (cstA (.str "keyb")) nilL)))))))))) (callF TT_law_take (consL (varA 0) (consL (cstA (.int 8)) nilL))))) nextA)
    (seqA (ifA (opT (eqT false) (varA 2) (cstA (.int 7))) (seqA (setA 4 (cstA (.str "")))
    (seqA (forA m (iterR1 (fun s Q => (opA addA (cstA (.int 1)) (callF TT_law_take (consL (varA 0) (consL (cstA (.int 4)) nilL)))) s fun x s1 => onSome x.int? fun j => -(2 ^ 62) ≤ j ∧ Q x s1)) (nameG 5) (setA 4 (opA addA (varA 4) (opA ixA (cstA (.str "abcdefghijklmnopqrstuvwxyz")) (callF TT_law_take (consL (varA 0) (consL (cstA (.int 26)) nilL)))))))
    (retA (varA 4)))) nextA)
    (retA (opA ixA (frzA (lstN (consL (cstA (.str "a")) (consL (cstA (.str "b")) (consL (cstA (.str "ab")) (consL (cstA (.str "c")) (consL (cstA (.str "zz")) (consL (cstA (.str "abcd")) (consL (cstA (.str "ba")) (consL (cstA (.str "k")) nilL)))))))))) (callF TT_law_take (consL (varA 0) (consL (varA 1) nilL)))))))))
def TT_law_kind : SpT := bodyT 4 (tt_law_kind)
theorem kk_law_kind {P : Program} {w : World} {K : PySem.W.Frag} {mg : Str → Option Value} {base : Heap} (T : Tx K mg) : FnOk P w K mg base CX0 2 T.f_law_kind T.d_law_kind ["deck", "few"] (spA 2 (TT_law_kind)) :=
  okA T.F_law_kind sc_law_kind fun cdv A outer s H E B hr =>
    (ss_consA (sa_set 2 sc_law_kind.nd (ea_callF (kk_law_take T) (hr.mono (by decide)) T.g_law_take T.F_law_take.kp T.b_law_take (el_cons (ea_v 0) (el_cons ea_int el_nil))))
      (ss_consA (sa_if (et_cmp (o_eq hr.units) (ea_v 2) ea_int) (ss_consA (sa_set 3 sc_law_kind.nd (ea_frz (en_lst (el_cons ea_str (el_cons ea_str (el_cons ea_str (el_cons ea_str (el_cons ea_str (el_cons ea_str (el_cons ea_str (el_cons ea_str (el_cons ea_str (el_cons ea_str (el_cons ea_str (el_cons ea_str (el_cons ea_str el_nil))))))))))))))))
      (ss_oneA (sa_ret (ea_ix (hu1 hr) (ea_op o_add (ea_v 3) (ea_frz (en_lst (el_cons ea_str (el_cons ea_str (el_cons ea_str (el_cons ea_str (el_cons ea_str el_nil)))))))) (ea_callF (kk_law_take T) (hr.mono (by decide)) T.g_law_take T.F_law_take.kp T.b_law_take (el_cons (ea_v 0) (el_cons ea_int el_nil))))))) ss_nilA)
      (ss_consA (sa_if (et_cmp (o_eq hr.units) (ea_v 2) ea_int) (ss_oneA (sa_ret (ea_ix (hu1 hr) (ea_frz (en_lst (el_cons ea_str (el_cons ea_str (el_cons ea_str (el_cons ea_str (el_cons ea_str (el_cons ea_str (el_cons ea_str (el_cons ea_str el_nil)))))))))) (ea_callF (kk_law_take T) (hr.mono (by decide)) T.g_law_take T.F_law_take.kp T.b_law_take (el_cons (ea_v 0) (el_cons ea_int el_nil)))))) ss_nilA)
      (ss_consA (sa_if (et_cmp (o_eq hr.units) (ea_v 2) ea_int) (ss_consA (sa_set 4 sc_law_kind.nd ea_str)
      (ss_consA (sa_for PassesOwn.never rfl (ia_range1 T.m_range (ea_op o_add ea_int (ea_callF (kk_law_take T) (hr.mono (by decide)) T.g_law_take T.F_law_take.kp T.b_law_take (el_cons (ea_v 0) (el_cons ea_int el_nil))))) (gt_name 5 sc_law_kind.nd) (fun _ _ => (ss_oneA (sa_set 4 sc_law_kind.nd (ea_op o_add (ea_v 4) (ea_ix (hu1 hr) ea_str (ea_callF (kk_law_take T) (hr.mono (by decide)) T.g_law_take T.F_law_take.kp T.b_law_take (el_cons (ea_v 0) (el_cons ea_int el_nil)))))))))
      (ss_oneA (sa_ret (ea_v 4))))) ss_nilA)
      (ss_oneA (sa_ret (ea_ix (hu1 hr) (ea_frz (en_lst (el_cons ea_str (el_cons ea_str (el_cons ea_str (el_cons ea_str (el_cons ea_str (el_cons ea_str (el_cons ea_str (el_cons ea_str el_nil)))))))))) (ea_callF (kk_law_take T) (hr.mono (by decide)) T.g_law_take T.F_law_take.kp T.b_law_take (el_cons (ea_v 0) (el_cons (ea_v 1) el_nil))))))))))
def tt_law_keys (m : Nat) : TSA := (retA (ownA (lcN (ioT (iterR1 (fun s Q => (callF TT_law_take (consL (varA 0) (consL (varA 2) nilL))) s fun x s1 => onSome x.int? fun j => -(2 ^ 62) ≤ j ∧ Q x s1))) (nameG 3) yesA (callF TT_law_kind (consL (varA 0) (consL (varA 1) nilL))) [3])))
def TT_law_keys : SpT := bodyT 1 (tt_law_keys)
theorem kk_law_keys {P : Program} {w : World} {K : PySem.W.Frag} {mg : Str → Option Value} {base : Heap} (T : Tx K mg) : FnOk P w K mg base CX0 3 T.f_law_keys T.d_law_keys ["deck", "few", "most"] (spA 3 (TT_law_keys)) :=
  okA T.F_law_keys sc_law_keys fun cdv A outer s H E B hr =>
    (ss_oneA (sa_ret (ea_own (en_lc [("k", 3)] (lcok sc_law_keys (by decide +kernel)) (IO.of (ia_range1 T.m_range (ea_callF (kk_law_take T) (hr.mono (by decide)) T.g_law_take T.F_law_take.kp T.b_law_take (el_cons (ea_v 0) (el_cons (ea_v 2) el_nil))))) (fun _ _ _ _ _ => (gt_name 3 sc_law_keys.nd)) (fun _ _ _ _ _ _ => (ea_callF (kk_law_kind T) (hr.mono (by decide)) T.g_law_kind T.F_law_kind.kp T.b_law_kind (el_cons (ea_v 0) (el_cons (ea_v 1) el_nil))))))))
def tt_law_house (m : Nat) : TSA := (seqA (setA 3 (opA ixA (frzA (lstN (consL (cstA (.int 2)) (consL (cstA (.int 3)) (consL (cstA (.int 8)) nilL))))) (callF TT_law_take (consL (varA 0) (consL (cstA (.int 3)) nilL)))))
    (seqA (setA 4 (ownA (lstN nilL)))
    (seqA (forA m (iterR1 (fun s Q => (callF TT_law_take (consL (varA 0) (consL (opA addA (varA 1) (cstA (.int 1))) nilL))) s fun x s1 => onSome x.int? fun j => -(2 ^ 62) ≤ j ∧ Q x s1)) (nameG 5) (seqA (setA 6 (frzA (bltN sortedN (consL (frzA (lcN (ioT (iterR1 (fun s Q => (opA addA (cstA (.int 1)) (callF TT_law_take (consL (varA 0) (consL (varA 2) nilL)))) s fun x s1 => onSome x.int? fun j => -(2 ^ 62) ≤ j ∧ Q x s1))) (nameG 7) yesA (callF TT_law_kind (consL (varA 0) (consL (varA 3) nilL))) [7])) nilL))))
    (dropA (mtL appendA (varA 4) (consL (tupA (consL (varA 6) (consL (callF TT_law_keys (consL (varA 0) (consL (varA 3) (consL (opA ixA (frzA (lstN (consL (cstA (.int 2)) (consL (cstA (.int 3)) (consL (cstA (.int 4)) (consL (cstA (.int 2)) (consL (opA ixA (frzA (lstN (consL (cstA (.int 9)) (consL (cstA (.int 3)) nilL)))) (bltA intA (consL (boolA (opT gtT (varA 1) (cstA (.int 12)))) nilL))) nilL))))))) (callF TT_law_take (consL (varA 0) (consL (cstA (.int 5)) nilL)))) nilL)))) nilL))) nilL)))))
    (retA (tupA (consL (callF TT_law_keys (consL (varA 0) (consL (varA 3) (consL (opA ixA (frzA (lstN (consL (cstA (.int 5)) (consL (cstA (.int 5)) (consL (cstA (.int 5)) (consL (cstA (.int 13)) nilL)))))) (callF TT_law_take (consL (varA 0) (consL (cstA (.int 4)) nilL)))) nilL)))) (consL (fzA m 4) nilL)))))))
def TT_law_house : SpT := bodyT 5 (tt_law_house)
theorem kk_law_house {P : Program} {w : World} {K : PySem.W.Frag} {mg : Str → Option Value} {base : Heap} (T : Tx K mg) : FnOk P w K mg base CX0 4 T.f_law_house T.d_law_house ["deck", "most", "locks"] (spA 3 (TT_law_house)) :=
  okA T.F_law_house sc_law_house fun cdv A outer s H E B hr =>
    (ss_consA (sa_set 3 sc_law_house.nd (ea_ix (hu1 hr) (ea_frz (en_lst (el_cons ea_int (el_cons ea_int (el_cons ea_int el_nil))))) (ea_callF (kk_law_take T) (hr.mono (by decide)) T.g_law_take T.F_law_take.kp T.b_law_take (el_cons (ea_v 0) (el_cons ea_int el_nil)))))
      (ss_consA (sa_set 4 sc_law_house.nd (ea_own (en_lst el_nil)))
      (ss_consA (sa_for PassesOwn.never rfl (ia_range1 T.m_range (ea_callF (kk_law_take T) (hr.mono (by decide)) T.g_law_take T.F_law_take.kp T.b_law_take (el_cons (ea_v 0) (el_cons (ea_op o_add (ea_v 1) ea_int) el_nil)))) (gt_name 5 sc_law_house.nd) (fun _ _ => (ss_consA (sa_set 6 sc_law_house.nd (ea_frz (en_blt (c_sorted rfl) T.m_sorted (el_cons (ea_frz (en_lc [("j", 7)] (lcok sc_law_house (by decide +kernel)) (IO.of (ia_range1 T.m_range (ea_op o_add ea_int (ea_callF (kk_law_take T) (hr.mono (by decide)) T.g_law_take T.F_law_take.kp T.b_law_take (el_cons (ea_v 0) (el_cons (ea_v 2) el_nil)))))) (fun _ _ _ _ _ => (gt_name 7 sc_law_house.nd)) (fun _ _ _ _ _ _ => (ea_callF (kk_law_kind T) (hr.mono (by decide)) T.g_law_kind T.F_law_kind.kp T.b_law_kind (el_cons (ea_v 0) (el_cons (ea_v 3) el_nil)))))) el_nil))))
      (ss_oneA (sa_expr (ea_mtL PySem.F.slot_list_append PySem.F.type_list_append m_append (ea_v 4) (el_cons (ea_tup (el_cons (ea_v 6) (el_cons (ea_callF (kk_law_keys T) (hr.mono (by decide)) T.g_law_keys T.F_law_keys.kp T.b_law_keys (el_cons (ea_v 0) (el_cons (ea_v 3) (el_cons (ea_ix (hu1 hr) (ea_frz (en_lst (el_cons ea_int (el_cons ea_int (el_cons ea_int (el_cons ea_int (el_cons (ea_ix (hu1 hr) (ea_frz (en_lst (el_cons ea_int (el_cons ea_int el_nil)))) (ea_bty c_int T.m_int (el_cons (ea_cmp o_gt (ea_v 1) ea_int) el_nil))) el_nil))))))) (ea_callF (kk_law_take T) (hr.mono (by decide)) T.g_law_take T.F_law_take.kp T.b_law_take (el_cons (ea_v 0) (el_cons ea_int el_nil)))) el_nil)))) el_nil))) el_nil)))))))
      (ss_oneA (sa_ret (ea_tup (el_cons (ea_callF (kk_law_keys T) (hr.mono (by decide)) T.g_law_keys T.F_law_keys.kp T.b_law_keys (el_cons (ea_v 0) (el_cons (ea_v 3) (el_cons (ea_ix (hu1 hr) (ea_frz (en_lst (el_cons ea_int (el_cons ea_int (el_cons ea_int (el_cons ea_int el_nil)))))) (ea_callF (kk_law_take T) (hr.mono (by decide)) T.g_law_take T.F_law_take.kp T.b_law_take (el_cons (ea_v 0) (el_cons ea_int el_nil)))) el_nil)))) (el_cons (ea_fz 4) el_nil))))))))
def tt_law_keys_written (m : Nat) : TSA := (retA (joinA (cstA (.str " ")) (opA addA (frzA (bltN sortedN (consL (varA 0) nilL))) (opA mulX (frzA (lstN (consL (cstA (.str "-")) nilL))) (bltA intA (consL (boolA (nilT false (varA 0))) nilL))))))
def TT_law_keys_written : SpT := bodyT 0 (tt_law_keys_written)
theorem kk_law_keys_written {P : Program} {w : World} {K : PySem.W.Frag} {mg : Str → Option Value} {base : Heap} (T : Tx K mg) : FnOk P w K mg base CX0 1 T.f_law_keys_written T.d_law_keys_written ["keys"] (spA 1 (TT_law_keys_written)) :=
  okA T.F_law_keys_written sc_law_keys_written fun cdv A outer s H E B hr =>
    (ss_oneA (sa_ret (ea_join ea_str (ea_op o_add (ea_frz (en_blt (c_sorted rfl) T.m_sorted (el_cons (ea_v 0) el_nil))) (ea_op o_mulX (ea_frz (en_lst (el_cons ea_str el_nil))) (ea_bty c_int T.m_int (el_cons (ea_eqNil hr.units (ea_v 0)) el_nil)))))))
def tt_law_lines (m : Nat) : TSA := (seqA (setA 1 (ownA (lstN (consL (callF TT_law_keys_written (consL (opA ixA (varA 0) (cstA (.int 0))) nilL)) nilL))))
    (seqA (forA m (iterL (opA ixA (varA 0) (cstA (.int 1)))) (tup2G (nameG 2) (nameG 3)) (dropA (mtL appendA (varA 1) (consL (opA addA (opA addA (joinA (cstA (.str "+")) (varA 2)) (cstA (.str ": "))) (callF TT_law_keys_written (consL (varA 3) nilL))) nilL))))
    (retA (varA 1))))
def TT_law_lines : SpT := bodyT 3 (tt_law_lines)
theorem kk_law_lines {P : Program} {w : World} {K : PySem.W.Frag} {mg : Str → Option Value} {base : Heap} (T : Tx K mg) : FnOk P w K mg base CX0 2 T.f_law_lines T.d_law_lines ["house"] (spA 1 (TT_law_lines)) :=
  okA T.F_law_lines sc_law_lines fun cdv A outer s H E B hr =>
    (ss_consA (sa_set 1 sc_law_lines.nd (ea_own (en_lst (el_cons (ea_callF (kk_law_keys_written T) (hr.mono (by decide)) T.g_law_keys_written T.F_law_keys_written.kp T.b_law_keys_written (el_cons (ea_ix (hu1 hr) (ea_v 0) ea_int) el_nil)) el_nil))))
      (ss_consA (sa_for PassesOwn.never rfl (ia_list (ea_ix (hu1 hr) (ea_v 0) ea_int)) (gt_tup2 rfl (gt_name 2 sc_law_lines.nd) (gt_name 3 sc_law_lines.nd)) (fun _ _ => (ss_oneA (sa_expr (ea_mtL PySem.F.slot_list_append PySem.F.type_list_append m_append (ea_v 1) (el_cons (ea_op o_add (ea_op o_add (ea_join ea_str (ea_v 2)) ea_str) (ea_callF (kk_law_keys_written T) (hr.mono (by decide)) T.g_law_keys_written T.F_law_keys_written.kp T.b_law_keys_written (el_cons (ea_v 3) el_nil))) el_nil))))))
      (ss_oneA (sa_ret (ea_v 1)))))
def tt_law_alike_r0 (m : Nat) : TSA := (seqA (ifA (opT (isNT false) (varA 1) (cstA .none)) (retA (boolA (opT (isNT false) (varA 0) (cstA .none)))) nextA)
    (seqA (ifA (orA (valA (isiT "tuple" (varA 1))) (valA (isiT "list" (varA 1)))) (seqA (ifA (orA (opT (eqT true) (isiT "tuple" (varA 0)) (isiT "tuple" (varA 1))) (opT (eqT true) (isiT "list" (varA 0)) (isiT "list" (varA 1)))) (retA (cstA (.bool false))) nextA)
    (seqA (ifA (opT (eqT true) (bltA lenA (consL (varA 0) nilL)) (bltA lenA (consL (varA 1) nilL))) (retA (cstA (.bool false))) nextA)
    neverA)) nextA)
    (seqA (ifA (valA (isiT "str" (varA 1))) (retA (andV (isiT "str" (varA 0)) (boolA (opT (eqT false) (varA 0) (varA 1))))) nextA)
    (retA (andV (isiT "int" (varA 0)) (andV (notV (isiT "bool" (varA 0))) (boolA (opT (eqT false) (varA 0) (varA 1)))))))))
def TT_law_alike_r0 : SpT := bodyT 1 (tt_law_alike_r0)
theorem kk_law_alike_r0 {P : Program} {w : World} {K : PySem.W.Frag} {mg : Str → Option Value} {base : Heap} (T : Tx K mg) : FnOk P w K mg base CX0 1 T.f_law_alike T.d_law_alike ["found", "due"] (spA 2 (TT_law_alike_r0)) :=
  okA T.F_law_alike sc_law_alike fun cdv A outer s H E B hr =>
    (ss_consA (sa_if (et_cmp o_isN (ea_v 1) ea_none) (ss_oneA (sa_ret (ea_cmp o_isN (ea_v 0) ea_none))) ss_nilA)
      (ss_consA (sa_if (ET.of_w (ew_or (et_val (ea_isi (tn := "tuple") T.m_isinstance T.m_tuple (ea_v 1))) (ew_or1 (et_val (ea_isi (tn := "list") T.m_isinstance T.m_list (ea_v 1)))))) (ss_consA (sa_if (ET.of_w (ew_or (et_cmp (o_ne hr.units) (ea_isi (tn := "tuple") T.m_isinstance T.m_tuple (ea_v 0)) (ea_isi (tn := "tuple") T.m_isinstance T.m_tuple (ea_v 1))) (ew_or1 (et_cmp (o_ne hr.units) (ea_isi (tn := "list") T.m_isinstance T.m_list (ea_v 0)) (ea_isi (tn := "list") T.m_isinstance T.m_list (ea_v 1)))))) (ss_oneA (sa_ret ea_bool)) ss_nilA)
      (ss_consA (sa_if (et_cmp (o_ne hr.units) (ea_blt c_len T.m_len (el_cons (ea_v 0) el_nil)) (ea_blt c_len T.m_len (el_cons (ea_v 1) el_nil))) (ss_oneA (sa_ret ea_bool)) ss_nilA)
      (ss_oneA sa_never))) ss_nilA)
      (ss_consA (sa_if (et_val (ea_isi (tn := "str") T.m_isinstance T.m_str (ea_v 1))) (ss_oneA (sa_ret (ea_and (ea_isi (tn := "str") T.m_isinstance T.m_str (ea_v 0)) (ea_one (ea_cmp (o_eq hr.units) (ea_v 0) (ea_v 1)))))) ss_nilA)
      (ss_oneA (sa_ret (ea_and (ea_isi (tn := "int") T.m_isinstance T.m_int (ea_v 0)) (ea_and (ea_not (ea_isi (tn := "bool") T.m_isinstance T.m_bool (ea_v 0))) (ea_one (ea_cmp (o_eq hr.units) (ea_v 0) (ea_v 1))))))))))
def tt_law_alike_r1 (m : Nat) : TSA := (seqA (ifA (opT (isNT false) (varA 1) (cstA .none)) (retA (boolA (opT (isNT false) (varA 0) (cstA .none)))) nextA)
    (seqA (ifA (orA (valA (isiT "tuple" (varA 1))) (valA (isiT "list" (varA 1)))) (seqA (ifA (orA (opT (eqT true) (isiT "tuple" (varA 0)) (isiT "tuple" (varA 1))) (opT (eqT true) (isiT "list" (varA 0)) (isiT "list" (varA 1)))) (retA (cstA (.bool false))) nextA)
    (seqA (ifA (opT (eqT true) (bltA lenA (consL (varA 0) nilL)) (bltA lenA (consL (varA 1) nilL))) (retA (cstA (.bool false))) nextA)
    (retA (boolA (nilT false (frzA (lcN (ioT (iterR1 (fun s Q => (bltA lenA (consL (varA 1) nilL)) s fun x s1 => onSome x.int? fun j => -(2 ^ 62) ≤ j ∧ Q x s1))) (nameG 2) (notA (valA (callF TT_law_alike_r0 (consL (opA ixA (varA 0) (varA 2)) (consL (opA ixA (varA 1) (varA 2)) nilL))))) (varA 2) [2]))))))) nextA)
    (seqA (ifA (valA (isiT "str" (varA 1))) (retA (andV (isiT "str" (varA 0)) (boolA (opT (eqT false) (varA 0) (varA 1))))) nextA)
    (retA (andV (isiT "int" (varA 0)) (andV (notV (isiT "bool" (varA 0))) (boolA (opT (eqT false) (varA 0) (varA 1)))))))))
def TT_law_alike_r1 : SpT := bodyT 1 (tt_law_alike_r1)
theorem kk_law_alike_r1 {P : Program} {w : World} {K : PySem.W.Frag} {mg : Str → Option Value} {base : Heap} (T : Tx K mg) : FnOk P w K mg base CX0 2 T.f_law_alike T.d_law_alike ["found", "due"] (spA 2 (TT_law_alike_r1)) :=
  okA T.F_law_alike sc_law_alike fun cdv A outer s H E B hr =>
    (ss_consA (sa_if (et_cmp o_isN (ea_v 1) ea_none) (ss_oneA (sa_ret (ea_cmp o_isN (ea_v 0) ea_none))) ss_nilA)
      (ss_consA (sa_if (ET.of_w (ew_or (et_val (ea_isi (tn := "tuple") T.m_isinstance T.m_tuple (ea_v 1))) (ew_or1 (et_val (ea_isi (tn := "list") T.m_isinstance T.m_list (ea_v 1)))))) (ss_consA (sa_if (ET.of_w (ew_or (et_cmp (o_ne hr.units) (ea_isi (tn := "tuple") T.m_isinstance T.m_tuple (ea_v 0)) (ea_isi (tn := "tuple") T.m_isinstance T.m_tuple (ea_v 1))) (ew_or1 (et_cmp (o_ne hr.units) (ea_isi (tn := "list") T.m_isinstance T.m_list (ea_v 0)) (ea_isi (tn := "list") T.m_isinstance T.m_list (ea_v 1)))))) (ss_oneA (sa_ret ea_bool)) ss_nilA)
      (ss_consA (sa_if (et_cmp (o_ne hr.units) (ea_blt c_len T.m_len (el_cons (ea_v 0) el_nil)) (ea_blt c_len T.m_len (el_cons (ea_v 1) el_nil))) (ss_oneA (sa_ret ea_bool)) ss_nilA)
      (ss_oneA (sa_ret (ea_eqNil hr.units (ea_frz (en_lcIf [("k", 2)] (lcok sc_law_alike (by decide +kernel)) (IO.of (ia_range1 T.m_range (ea_blt c_len T.m_len (el_cons (ea_v 1) el_nil)))) (fun _ _ _ _ _ => (gt_name 2 sc_law_alike.nd)) (fun _ _ _ _ _ _ => (et_not (et_val (ea_callF (kk_law_alike_r0 T) (hr.mono (by decide)) T.g_law_alike T.F_law_alike.kp T.b_law_alike (el_cons (ea_ix (hu1 hr) (ea_v 0) (ea_v 2)) (el_cons (ea_ix (hu1 hr) (ea_v 1) (ea_v 2)) el_nil)))))) (fun _ _ _ _ _ _ => (ea_v 2))))))))) ss_nilA)
      (ss_consA (sa_if (et_val (ea_isi (tn := "str") T.m_isinstance T.m_str (ea_v 1))) (ss_oneA (sa_ret (ea_and (ea_isi (tn := "str") T.m_isinstance T.m_str (ea_v 0)) (ea_one (ea_cmp (o_eq hr.units) (ea_v 0) (ea_v 1)))))) ss_nilA)
      (ss_oneA (sa_ret (ea_and (ea_isi (tn := "int") T.m_isinstance T.m_int (ea_v 0)) (ea_and (ea_not (ea_isi (tn := "bool") T.m_isinstance T.m_bool (ea_v 0))) (ea_one (ea_cmp (o_eq hr.units) (ea_v 0) (ea_v 1))))))))))
def tt_law_alike_r2 (m : Nat) : TSA := (seqA (ifA (opT (isNT false) (varA 1) (cstA .none)) (retA (boolA (opT (isNT false) (varA 0) (cstA .none)))) nextA)
    (seqA (ifA (orA (valA (isiT "tuple" (varA 1))) (valA (isiT "list" (varA 1)))) (seqA (ifA (orA (opT (eqT true) (isiT "tuple" (varA 0)) (isiT "tuple" (varA 1))) (opT (eqT true) (isiT "list" (varA 0)) (isiT "list" (varA 1)))) (retA (cstA (.bool false))) nextA)
    (seqA (ifA (opT (eqT true) (bltA lenA (consL (varA 0) nilL)) (bltA lenA (consL (varA 1) nilL))) (retA (cstA (.bool false))) nextA)
    (retA (boolA (nilT false (frzA (lcN (ioT (iterR1 (fun s Q => (bltA lenA (consL (varA 1) nilL)) s fun x s1 => onSome x.int? fun j => -(2 ^ 62) ≤ j ∧ Q x s1))) (nameG 2) (notA (valA (callF TT_law_alike_r1 (consL (opA ixA (varA 0) (varA 2)) (consL (opA ixA (varA 1) (varA 2)) nilL))))) (varA 2) [2]))))))) nextA)
    (seqA (ifA (valA (isiT "str" (varA 1))) (retA (andV (isiT "str" (varA 0)) (boolA (opT (eqT false) (varA 0) (varA 1))))) nextA)
    (retA (andV (isiT "int" (varA 0)) (andV (notV (isiT "bool" (varA 0))) (boolA (opT (eqT false) (varA 0) (varA 1)))))))))
def TT_law_alike_r2 : SpT := bodyT 1 (tt_law_alike_r2)
theorem kk_law_alike_r2 {P : Program} {w : World} {K : PySem.W.Frag} {mg : Str → Option Value} {base : Heap} (T : Tx K mg) : FnOk P w K mg base CX0 3 T.f_law_alike T.d_law_alike ["found", "due"] (spA 2 (TT_law_alike_r2)) :=
  okA T.F_law_alike sc_law_alike fun cdv A outer s H E B hr =>
    (ss_consA (sa_if (et_cmp o_isN (ea_v 1) ea_none) (ss_oneA (sa_ret (ea_cmp o_isN (ea_v 0) ea_none))) ss_nilA)
      (ss_consA (sa_if (ET.of_w (ew_or (et_val (ea_isi (tn := "tuple") T.m_isinstance T.m_tuple (ea_v 1))) (ew_or1 (et_val (ea_isi (tn := "list") T.m_isinstance T.m_list (ea_v 1)))))) (ss_consA (sa_if (ET.of_w (ew_or (et_cmp (o_ne hr.units) (ea_isi (tn := "tuple") T.m_isinstance T.m_tuple (ea_v 0)) (ea_isi (tn := "tuple") T.m_isinstance T.m_tuple (ea_v 1))) (ew_or1 (et_cmp (o_ne hr.units) (ea_isi (tn := "list") T.m_isinstance T.m_list (ea_v 0)) (ea_isi (tn := "list") T.m_isinstance T.m_list (ea_v 1)))))) (ss_oneA (sa_ret ea_bool)) ss_nilA)
      (ss_consA (sa_if (et_cmp (o_ne hr.units) (ea_blt c_len T.m_len (el_cons (ea_v 0) el_nil)) (ea_blt c_len T.m_len (el_cons (ea_v 1) el_nil))) (ss_oneA (sa_ret ea_bool)) ss_nilA)
      (ss_oneA (sa_ret (ea_eqNil hr.units (ea_frz (en_lcIf [("k", 2)] (lcok sc_law_alike (by decide +kernel)) (IO.of (ia_range1 T.m_range (ea_blt c_len T.m_len (el_cons (ea_v 1) el_nil)))) (fun _ _ _ _ _ => (gt_name 2 sc_law_alike.nd)) (fun _ _ _ _ _ _ => (et_not (et_val (ea_callF (kk_law_alike_r1 T) (hr.mono (by decide)) T.g_law_alike T.F_law_alike.kp T.b_law_alike (el_cons (ea_ix (hu1 hr) (ea_v 0) (ea_v 2)) (el_cons (ea_ix (hu1 hr) (ea_v 1) (ea_v 2)) el_nil)))))) (fun _ _ _ _ _ _ => (ea_v 2))))))))) ss_nilA)
      (ss_consA (sa_if (et_val (ea_isi (tn := "str") T.m_isinstance T.m_str (ea_v 1))) (ss_oneA (sa_ret (ea_and (ea_isi (tn := "str") T.m_isinstance T.m_str (ea_v 0)) (ea_one (ea_cmp (o_eq hr.units) (ea_v 0) (ea_v 1)))))) ss_nilA)
      (ss_oneA (sa_ret (ea_and (ea_isi (tn := "int") T.m_isinstance T.m_int (ea_v 0)) (ea_and (ea_not (ea_isi (tn := "bool") T.m_isinstance T.m_bool (ea_v 0))) (ea_one (ea_cmp (o_eq hr.units) (ea_v 0) (ea_v 1))))))))))
def tt_law_alike_r3 (m : Nat) : TSA := (seqA (ifA (opT (isNT false) (varA 1) (cstA .none)) (retA (boolA (opT (isNT false) (varA 0) (cstA .none)))) nextA)
    (seqA (ifA (orA (valA (isiT "tuple" (varA 1))) (valA (isiT "list" (varA 1)))) (seqA (ifA (orA (opT (eqT true) (isiT "tuple" (varA 0)) (isiT "tuple" (varA 1))) (opT (eqT true) (isiT "list" (varA 0)) (isiT "list" (varA 1)))) (retA (cstA (.bool false))) nextA)
    (seqA (ifA (opT (eqT true) (bltA lenA (consL (varA 0) nilL)) (bltA lenA (consL (varA 1) nilL))) (retA (cstA (.bool false))) nextA)
    (retA (boolA (nilT false (frzA (lcN (ioT (iterR1 (fun s Q => (bltA lenA (consL (varA 1) nilL)) s fun x s1 => onSome x.int? fun j => -(2 ^ 62) ≤ j ∧ Q x s1))) (nameG 2) (notA (valA (callF TT_law_alike_r2 (consL (opA ixA (varA 0) (varA 2)) (consL (opA ixA (varA 1) (varA 2)) nilL))))) (varA 2) [2]))))))) nextA)
    (seqA (ifA (valA (isiT "str" (varA 1))) (retA (andV (isiT "str" (varA 0)) (boolA (opT (eqT false) (varA 0) (varA 1))))) nextA)
    (retA (andV (isiT "int" (varA 0)) (andV (notV (isiT "bool" (varA 0))) (boolA (opT (eqT false) (varA 0) (varA 1)))))))))
def TT_law_alike_r3 : SpT := bodyT 1 (tt_law_alike_r3)
theorem kk_law_alike_r3 {P : Program} {w : World} {K : PySem.W.Frag} {mg : Str → Option Value} {base : Heap} (T : Tx K mg) : FnOk P w K mg base CX0 4 T.f_law_alike T.d_law_alike ["found", "due"] (spA 2 (TT_law_alike_r3)) :=
  okA T.F_law_alike sc_law_alike fun cdv A outer s H E B hr =>
    (ss_consA (sa_if (et_cmp o_isN (ea_v 1) ea_none) (ss_oneA (sa_ret (ea_cmp o_isN (ea_v 0) ea_none))) ss_nilA)
      (ss_consA (sa_if (ET.of_w (ew_or (et_val (ea_isi (tn := "tuple") T.m_isinstance T.m_tuple (ea_v 1))) (ew_or1 (et_val (ea_isi (tn := "list") T.m_isinstance T.m_list (ea_v 1)))))) (ss_consA (sa_if (ET.of_w (ew_or (et_cmp (o_ne hr.units) (ea_isi (tn := "tuple") T.m_isinstance T.m_tuple (ea_v 0)) (ea_isi (tn := "tuple") T.m_isinstance T.m_tuple (ea_v 1))) (ew_or1 (et_cmp (o_ne hr.units) (ea_isi (tn := "list") T.m_isinstance T.m_list (ea_v 0)) (ea_isi (tn := "list") T.m_isinstance T.m_list (ea_v 1)))))) (ss_oneA (sa_ret ea_bool)) ss_nilA)
      (ss_consA (sa_if (et_cmp (o_ne hr.units) (ea_blt c_len T.m_len (el_cons (ea_v 0) el_nil)) (ea_blt c_len T.m_len (el_cons (ea_v 1) el_nil))) (ss_oneA (sa_ret ea_bool)) ss_nilA)
      (ss_oneA (sa_ret (ea_eqNil hr.units (ea_frz (en_lcIf [("k", 2)] (lcok sc_law_alike (by decide +kernel)) (IO.of (ia_range1 T.m_range (ea_blt c_len T.m_len (el_cons (ea_v 1) el_nil)))) (fun _ _ _ _ _ => (gt_name 2 sc_law_alike.nd)) (fun _ _ _ _ _ _ => (et_not (et_val (ea_callF (kk_law_alike_r2 T) (hr.mono (by decide)) T.g_law_alike T.F_law_alike.kp T.b_law_alike (el_cons (ea_ix (hu1 hr) (ea_v 0) (ea_v 2)) (el_cons (ea_ix (hu1 hr) (ea_v 1) (ea_v 2)) el_nil)))))) (fun _ _ _ _ _ _ => (ea_v 2))))))))) ss_nilA)
      (ss_consA (sa_if (et_val (ea_isi (tn := "str") T.m_isinstance T.m_str (ea_v 1))) (ss_oneA (sa_ret (ea_and (ea_isi (tn := "str") T.m_isinstance T.m_str (ea_v 0)) (ea_one (ea_cmp (o_eq hr.units) (ea_v 0) (ea_v 1)))))) ss_nilA)
      (ss_oneA (sa_ret (ea_and (ea_isi (tn := "int") T.m_isinstance T.m_int (ea_v 0)) (ea_and (ea_not (ea_isi (tn := "bool") T.m_isinstance T.m_bool (ea_v 0))) (ea_one (ea_cmp (o_eq hr.units) (ea_v 0) (ea_v 1))))))))))
def tt_law_alike_r4 (m : Nat) : TSA := (seqA (ifA (opT (isNT false) (varA 1) (cstA .none)) (retA (boolA (opT (isNT false) (varA 0) (cstA .none)))) nextA)
    (seqA (ifA (orA (valA (isiT "tuple" (varA 1))) (valA (isiT "list" (varA 1)))) (seqA (ifA (orA (opT (eqT true) (isiT "tuple" (varA 0)) (isiT "tuple" (varA 1))) (opT (eqT true) (isiT "list" (varA 0)) (isiT "list" (varA 1)))) (retA (cstA (.bool false))) nextA)
    (seqA (ifA (opT (eqT true) (bltA lenA (consL (varA 0) nilL)) (bltA lenA (consL (varA 1) nilL))) (retA (cstA (.bool false))) nextA)
    (retA (boolA (nilT false (frzA (lcN (ioT (iterR1 (fun s Q => (bltA lenA (consL (varA 1) nilL)) s fun x s1 => onSome x.int? fun j => -(2 ^ 62) ≤ j ∧ Q x s1))) (nameG 2) (notA (valA (callF TT_law_alike_r3 (consL (opA ixA (varA 0) (varA 2)) (consL (opA ixA (varA 1) (varA 2)) nilL))))) (varA 2) [2]))))))) nextA)
    (seqA (ifA (valA (isiT "str" (varA 1))) (retA (andV (isiT "str" (varA 0)) (boolA (opT (eqT false) (varA 0) (varA 1))))) nextA)
    (retA (andV (isiT "int" (varA 0)) (andV (notV (isiT "bool" (varA 0))) (boolA (opT (eqT false) (varA 0) (varA 1)))))))))
def TT_law_alike_r4 : SpT := bodyT 1 (tt_law_alike_r4)
theorem kk_law_alike_r4 {P : Program} {w : World} {K : PySem.W.Frag} {mg : Str → Option Value} {base : Heap} (T : Tx K mg) : FnOk P w K mg base CX0 5 T.f_law_alike T.d_law_alike ["found", "due"] (spA 2 (TT_law_alike_r4)) :=
  okA T.F_law_alike sc_law_alike fun cdv A outer s H E B hr =>
    (ss_consA (sa_if (et_cmp o_isN (ea_v 1) ea_none) (ss_oneA (sa_ret (ea_cmp o_isN (ea_v 0) ea_none))) ss_nilA)
      (ss_consA (sa_if (ET.of_w (ew_or (et_val (ea_isi (tn := "tuple") T.m_isinstance T.m_tuple (ea_v 1))) (ew_or1 (et_val (ea_isi (tn := "list") T.m_isinstance T.m_list (ea_v 1)))))) (ss_consA (sa_if (ET.of_w (ew_or (et_cmp (o_ne hr.units) (ea_isi (tn := "tuple") T.m_isinstance T.m_tuple (ea_v 0)) (ea_isi (tn := "tuple") T.m_isinstance T.m_tuple (ea_v 1))) (ew_or1 (et_cmp (o_ne hr.units) (ea_isi (tn := "list") T.m_isinstance T.m_list (ea_v 0)) (ea_isi (tn := "list") T.m_isinstance T.m_list (ea_v 1)))))) (ss_oneA (sa_ret ea_bool)) ss_nilA)
      (ss_consA (sa_if (et_cmp (o_ne hr.units) (ea_blt c_len T.m_len (el_cons (ea_v 0) el_nil)) (ea_blt c_len T.m_len (el_cons (ea_v 1) el_nil))) (ss_oneA (sa_ret ea_bool)) ss_nilA)
      (ss_oneA (sa_ret (ea_eqNil hr.units (ea_frz (en_lcIf [("k", 2)] (lcok sc_law_alike (by decide +kernel)) (IO.of (ia_range1 T.m_range (ea_blt c_len T.m_len (el_cons (ea_v 1) el_nil)))) (fun _ _ _ _ _ => (gt_name 2 sc_law_alike.nd)) (fun _ _ _ _ _ _ => (et_not (et_val (ea_callF (kk_law_alike_r3 T) (hr.mono (by decide)) T.g_law_alike T.F_law_alike.kp T.b_law_alike (el_cons (ea_ix (hu1 hr) (ea_v 0) (ea_v 2)) (el_cons (ea_ix (hu1 hr) (ea_v 1) (ea_v 2)) el_nil)))))) (fun _ _ _ _ _ _ => (ea_v 2))))))))) ss_nilA)
      (ss_consA (sa_if (et_val (ea_isi (tn := "str") T.m_isinstance T.m_str (ea_v 1))) (ss_oneA (sa_ret (ea_and (ea_isi (tn := "str") T.m_isinstance T.m_str (ea_v 0)) (ea_one (ea_cmp (o_eq hr.units) (ea_v 0) (ea_v 1)))))) ss_nilA)
      (ss_oneA (sa_ret (ea_and (ea_isi (tn := "int") T.m_isinstance T.m_int (ea_v 0)) (ea_and (ea_not (ea_isi (tn := "bool") T.m_isinstance T.m_bool (ea_v 0))) (ea_one (ea_cmp (o_eq hr.units) (ea_v 0) (ea_v 1))))))))))
def tt_law_kinds (m : Nat) : TSA := (seqA (forA m (iterL (varA 0)) (nameG 1) (ifA (orA (notA (chainT (fun i j => decide (i ≤ j)) (fun i j => decide (i ≤ j)) (cstA (.int 1)) (bltA lenA (consL (varA 1) nilL)) (cstA (.int 4)))) (nilT true (frzA (lcN (ioT (iterTx (varA 1))) (nameG 2) (opT (inT true) (varA 2) (cstA (.str "abcdefghijklmnopqrstuvwxyz"))) (varA 2) [2])))) (retA (cstA .none)) nextA))
    (retA (ownA (bltN listN (consL (varA 0) nilL)))))
def TT_law_kinds : SpT := bodyT 2 (tt_law_kinds)
theorem kk_law_kinds {P : Program} {w : World} {K : PySem.W.Frag} {mg : Str → Option Value} {base : Heap} (T : Tx K mg) : FnOk P w K mg base CX0 1 T.f_law_kinds T.d_law_kinds ["words"] (spA 1 (TT_law_kinds)) :=
  okA T.F_law_kinds sc_law_kinds fun cdv A outer s H E B hr =>
    (ss_consA (sa_for PassesOwn.never rfl (ia_list (ea_v 0)) (gt_name 1 sc_law_kinds.nd) (fun _ _ => (ss_oneA (sa_if (ET.of_w (ew_or (et_not (et_chain op_le op_le ea_int (ea_blt c_len T.m_len (el_cons (ea_v 1) el_nil)) ea_int)) (ew_or1 (et_neNil hr.units (ea_frz (en_lcIf [("sign", 2)] (lcok sc_law_kinds (by decide +kernel)) (IO.of (ia_str (ea_v 1))) (fun _ _ _ _ _ => (gt_name 2 sc_law_kinds.nd)) (fun _ _ _ _ _ _ => (et_cmp (o_notIn (hu1 hr)) (ea_v 2) ea_str)) (fun _ _ _ _ _ _ => (ea_v 2)))))))) (ss_oneA (sa_ret ea_none)) ss_nilA))))
      (ss_oneA (sa_ret (ea_own (en_bty c_list T.m_list (el_cons (ea_v 0) el_nil))))))
def tt_law_keys_read (m : Nat) : TSA := (seqA (ifA (opT (eqT false) (varA 0) (cstA (.str "-"))) (retA (ownA (lstN nilL))) nextA)
    (seqA (setA 1 (callF TT_law_kinds (consL (frzA (splitN (varA 0) (cstA (.str " ")))) nilL)))
    (retA (opA ixA (frzA (lstN (consL (cstA .none) (consL (varA 1) nilL)))) (bltA intA (consL (andV (boolA (opT (isNT true) (varA 1) (cstA .none))) (boolA (opT (eqT false) (varA 1) (frzA (bltN sortedN (consL (varA 1) nilL)))))) nilL))))))
def TT_law_keys_read : SpT := bodyT 1 (tt_law_keys_read)
theorem kk_law_keys_read {P : Program} {w : World} {K : PySem.W.Frag} {mg : Str → Option Value} {base : Heap} (T : Tx K mg) : FnOk P w K mg base CX0 2 T.f_law_keys_read T.d_law_keys_read ["text"] (spA 1 (TT_law_keys_read)) :=
  okA T.F_law_keys_read sc_law_keys_read fun cdv A outer s H E B hr =>
    (ss_consA (sa_if (et_cmp (o_eq hr.units) (ea_v 0) ea_str) (ss_oneA (sa_ret (ea_own (en_lst el_nil)))) ss_nilA)
      (ss_consA (sa_set 1 sc_law_keys_read.nd (ea_callF (kk_law_kinds T) (hr.mono (by decide)) T.g_law_kinds T.F_law_kinds.kp T.b_law_kinds (el_cons (ea_frz (en_split (ea_v 0) ea_str)) el_nil)))
      (ss_oneA (sa_ret (ea_ix (hu1 hr) (ea_frz (en_lst (el_cons ea_none (el_cons (ea_v 1) el_nil)))) (ea_bty c_int T.m_int (el_cons (ea_and (ea_cmp o_notN (ea_v 1) ea_none) (ea_one (ea_cmp (o_eq hr.units) (ea_v 1) (ea_frz (en_blt (c_sorted rfl) T.m_sorted (el_cons (ea_v 1) el_nil)))))) el_nil)))))))
def tt_law_read (m : Nat) : TSA := (seqA (setA 1 (frzA (splitN (varA 0) (cstA (.str "\n")))))
    (seqA (setA 2 (callF TT_law_keys_read (consL (opA ixA (varA 1) (cstA (.int 0))) nilL)))
    (seqA (setA 3 (ownA (lstN nilL)))
    (seqA (forA m (iterL (slLo (varA 1) (cstA (.int 1)))) (nameG 4) (seqA (asgA (partA (varA 4) (cstA (.str ": "))) (tup3G (nameG 5) (nameG 6) (nameG 7)))
    (seqA (setA 8 (callF TT_law_kinds (consL (frzA (splitN (varA 5) (cstA (.str "+")))) nilL)))
    (seqA (setA 9 (callF TT_law_keys_read (consL (varA 7) nilL)))
    (seqA (ifA (orA (opT (eqT false) (varA 6) (cstA (.str ""))) (orA (opT (isNT false) (varA 8) (cstA .none)) (orA (opT (isNT false) (varA 9) (cstA .none)) (orA (opT gtT (bltA lenA (consL (varA 8) nilL)) (cstA (.int 4))) (opT (eqT true) (varA 8) (frzA (bltN sortedN (consL (varA 8) nilL)))))))) (retA (cstA .none)) nextA)
    (dropA (mtL appendA (varA 3) (consL (tupA (consL (varA 8) (consL (varA 9) nilL))) nilL))))))))
    (seqA (ifA (opT (isNT false) (varA 2) (cstA .none)) (retA (cstA .none)) nextA)
    (retA (tupA (consL (varA 2) (consL (fzA m 3) nilL)))))))))
def TT_law_read : SpT := bodyT 9 (tt_law_read)
theorem kk_law_read {P : Program} {w : World} {K : PySem.W.Frag} {mg : Str → Option Value} {base : Heap} (T : Tx K mg) : FnOk P w K mg base CX0 3 T.f_law_read T.d_law_read ["text"] (spA 1 (TT_law_read)) :=
  okA T.F_law_read sc_law_read fun cdv A outer s H E B hr =>
    (ss_consA (sa_set 1 sc_law_read.nd (ea_frz (en_split (ea_v 0) ea_str)))
      (ss_consA (sa_set 2 sc_law_read.nd (ea_callF (kk_law_keys_read T) (hr.mono (by decide)) T.g_law_keys_read T.F_law_keys_read.kp T.b_law_keys_read (el_cons (ea_ix (hu1 hr) (ea_v 1) ea_int) el_nil)))
      (ss_consA (sa_set 3 sc_law_read.nd (ea_own (en_lst el_nil)))
      (ss_consA (sa_for PassesOwn.never rfl (ia_list (ea_slLo (ea_v 1) ea_int)) (gt_name 4 sc_law_read.nd) (fun _ _ => (ss_consA (sa_asg (ea_part (ea_v 4) ea_str) (gt_tup3 rfl (gt_name 5 sc_law_read.nd) (gt_name 6 sc_law_read.nd) (gt_name 7 sc_law_read.nd)))
      (ss_consA (sa_set 8 sc_law_read.nd (ea_callF (kk_law_kinds T) (hr.mono (by decide)) T.g_law_kinds T.F_law_kinds.kp T.b_law_kinds (el_cons (ea_frz (en_split (ea_v 5) ea_str)) el_nil)))
      (ss_consA (sa_set 9 sc_law_read.nd (ea_callF (kk_law_keys_read T) (hr.mono (by decide)) T.g_law_keys_read T.F_law_keys_read.kp T.b_law_keys_read (el_cons (ea_v 7) el_nil)))
      (ss_consA (sa_if (ET.of_w (ew_or (et_cmp (o_eq hr.units) (ea_v 6) ea_str) (ew_or (et_cmp o_isN (ea_v 8) ea_none) (ew_or (et_cmp o_isN (ea_v 9) ea_none) (ew_or (et_cmp o_gt (ea_blt c_len T.m_len (el_cons (ea_v 8) el_nil)) ea_int) (ew_or1 (et_cmp (o_ne hr.units) (ea_v 8) (ea_frz (en_blt (c_sorted rfl) T.m_sorted (el_cons (ea_v 8) el_nil)))))))))) (ss_oneA (sa_ret ea_none)) ss_nilA)
      (ss_oneA (sa_expr (ea_mtL PySem.F.slot_list_append PySem.F.type_list_append m_append (ea_v 3) (el_cons (ea_tup (el_cons (ea_v 8) (el_cons (ea_v 9) el_nil))) el_nil))))))))))
      (ss_consA (sa_if (et_cmp o_isN (ea_v 2) ea_none) (ss_oneA (sa_ret ea_none)) ss_nilA)
      (ss_oneA (sa_ret (ea_tup (el_cons (ea_v 2) (el_cons (ea_fz 3) el_nil))))))))))
def tt_law_asked (E : ExT) (m : Nat) : TSA := (seqA (setA 1 (cstA .none))
    (seqA (setA 2 (cstA .none))
    (seqA (tryK E [.house, .text] "KeyroomError" 3 2 (fun W => (setA 1 (callXF (TT_read_house E) W (consL (varA 0) nilL)))))
    (seqA (ifA (opT (isNT false) (varA 2) (cstA .none)) (retA (tupA (consL (cstA (.str "told")) (consL (varA 1) nilL)))) nextA)
    (seqA (ifA (valA (isiXT E [.house, .text] ["NoHouse", "NoKind", "NoNumber", "NoOrder", "NoPlain", "NoRow", "NoStep", "TooMany"] (varA 2))) (retA (tupA (consL (cstA (.str "odd")) (consL (cstA .none) nilL)))) nextA)
    (retA (tupA (consL (opA ixA (frzA (lstN (consL (cstA (.str "odd")) (consL (cstA (.str "NoText")) nilL)))) (bltA intA (consL (andV (isiX E [.house, .text] "NoText" (varA 2)) (isiX E [.house, .text] "ValueError" (varA 2))) nilL))) (consL (cstA .none) nilL)))))))))
def TT_law_asked (E : ExT) : SpT := bodyT 3 (tt_law_asked E)
theorem kk_law_asked {P : Program} {w : World} {K : PySem.W.Frag} {mg : Str → Option Value} {base : Heap} (T : Tx K mg) : FnOk P w K mg base CX0 7 T.f_law_asked T.d_law_asked ["text"] (spA 1 (TT_law_asked T.E)) :=
  okA T.F_law_asked sc_law_asked fun cdv A outer s H E B hr =>
    (ss_consA (sa_set 1 sc_law_asked.nd ea_none)
      (ss_consA (sa_set 2 sc_law_asked.nd ea_none)
      (ss_consA (sa_tryK 3 2 rfl rfl sc_law_asked.nd ⟨rfl, by decide, .inl T.x_KeyroomError⟩ T.h_KeyroomError (fun W _ _ tk hpo => (ss_oneA (sa_set 1 sc_law_asked.nd (ea_callXF (kk_read_house T) (hr.mono (by decide)) T.g_read_house T.F_read_house.kp T.b_read_house tk (el_cons (ea_v 0) el_nil))))))
      (ss_consA (sa_if (et_cmp o_isN (ea_v 2) ea_none) (ss_oneA (sa_ret (ea_tup (el_cons ea_str (el_cons (ea_v 1) el_nil))))) ss_nilA)
      (ss_consA (sa_if (et_val (ea_isiXT (nms := ["NoHouse", "NoKind", "NoNumber", "NoOrder", "NoPlain", "NoRow", "NoStep", "TooMany"]) (cs := [(T.E.c .house), (T.E.c .kind), (T.E.c .number), (T.E.c .order), (T.E.c .plain), (T.E.c .row), (T.E.c .step), (T.E.c .many)].map V.ref) (cvs := [(T.E.c .house), (T.E.c .kind), (T.E.c .number), (T.E.c .order), (T.E.c .plain), (T.E.c .row), (T.E.c .step), (T.E.c .many)].map Value.ref) T.m_isinstance (ea_v 2) (pe_tup (pa_cons (pe_glob (v := .ref (T.E.c .house)) rfl T.g_NoHouse rfl) (pa_cons (pe_glob (v := .ref (T.E.c .kind)) rfl T.g_NoKind rfl) (pa_cons (pe_glob (v := .ref (T.E.c .number)) rfl T.g_NoNumber rfl) (pa_cons (pe_glob (v := .ref (T.E.c .order)) rfl T.g_NoOrder rfl) (pa_cons (pe_glob (v := .ref (T.E.c .plain)) rfl T.g_NoPlain rfl) (pa_cons (pe_glob (v := .ref (T.E.c .row)) rfl T.g_NoRow rfl) (pa_cons (pe_glob (v := .ref (T.E.c .step)) rfl T.g_NoStep rfl) (pa_cons (pe_glob (v := .ref (T.E.c .many)) rfl T.g_TooMany rfl) pa_nil))))))))) (fun _ _ _ k => ⟨(show 8 ≤ sizeLine by decide), k⟩) (fun _ h => vals_refs h) T.xC (fun n hn => (kitAny_cons (T.k_NoHouse n hn) (kitAny_cons (T.k_NoKind n hn) (kitAny_cons (T.k_NoNumber n hn) (kitAny_cons (T.k_NoOrder n hn) (kitAny_cons (T.k_NoPlain n hn) (kitAny_cons (T.k_NoRow n hn) (kitAny_cons (T.k_NoStep n hn) (kitAny_cons (T.k_TooMany n hn) kitAny_nil))))))))))) (ss_oneA (sa_ret (ea_tup (el_cons ea_str (el_cons ea_none el_nil))))) ss_nilA)
      (ss_oneA (sa_ret (ea_tup (el_cons (ea_ix (hu1 hr) (ea_frz (en_lst (el_cons ea_str (el_cons ea_str el_nil)))) (ea_bty c_int T.m_int (el_cons (ea_and (ea_isiX (c := .ref (T.E.c .text)) T.m_isinstance (ea_v 2) (pe_glob rfl T.g_NoText rfl) (fun _ h => h) T.xC T.k_NoText) (ea_one (ea_isiX (c := .ty "ValueError") T.m_isinstance (ea_v 2) (pe_bltn rfl T.m_ValueError (by decide +kernel) rfl) (fun _ h => h) T.xC T.k_ValueError))) el_nil))) (el_cons ea_none el_nil))))))))))
def tt_law_changed (m : Nat) : TSA := (seqA (setA 2 (opA modA (opA addA (callF TT_law_take (consL (varA 1) (consL (cstA (.int 64)) nilL))) (opA mulX (cstA (.int 64)) (callF TT_law_take (consL (varA 1) (consL (cstA (.int 64)) nilL))))) (opA addA (bltA lenA (consL (varA 0) nilL)) (cstA (.int 1)))))
    (seqA (setA 3 (opA ixA (cstA (.str " +:-abkz09AZ_,;.\n	/{=(@")) (callF TT_law_take (consL (varA 1) (consL (cstA (.int 23)) nilL)))))
    (seqA (setA 4 (callF TT_law_take (consL (varA 1) (consL (cstA (.int 7)) nilL))))
    (seqA (ifA (opT (eqT false) (varA 4) (cstA (.int 0))) (retA (opA addA (slHi (varA 0) (varA 2)) (slLo (varA 0) (opA addA (varA 2) (cstA (.int 1)))))) nextA)
    (seqA (ifA (opT ltT (varA 4) (cstA (.int 3))) (retA (opA addA (opA addA (slHi (varA 0) (varA 2)) (varA 3)) (slLo (varA 0) (opA subA (opA addA (varA 2) (varA 4)) (cstA (.int 1)))))) nextA)
    (seqA (ifA (opT (eqT false) (varA 4) (cstA (.int 3))) (retA (opA addA (opA addA (slHi (varA 0) (varA 2)) (revS (slLH (varA 0) (varA 2) (opA addA (varA 2) (cstA (.int 2)))))) (slLo (varA 0) (opA addA (varA 2) (cstA (.int 2)))))) nextA)
    (seqA (ifA (opT (eqT false) (varA 4) (cstA (.int 4))) (retA (opA addA (opA addA (slHi (varA 0) (varA 2)) (slLH (varA 0) (varA 2) (opA addA (varA 2) (cstA (.int 4))))) (slLo (varA 0) (varA 2)))) nextA)
    (seqA (ifA (opT (eqT false) (varA 4) (cstA (.int 5))) (retA (opA addA (varA 0) (opA ixA (frzA (lstN (consL (cstA (.str " ")) (consL (cstA (.str "\n")) (consL (cstA (.str "\n\n")) (consL (cstA (.str "\na: -")) (consL (cstA (.str "\n-")) (consL (cstA (.str " a")) (consL (cstA (.str "+a")) (consL (cstA (.str ":")) nilL)))))))))) (callF TT_law_take (consL (varA 1) (consL (cstA (.int 8)) nilL)))))) nextA)
    (retA (opA addA (opA ixA (frzA (lstN (consL (cstA (.str " ")) (consL (cstA (.str "-")) (consL (cstA (.str "\n")) (consL (cstA (.str "a: -\n")) (consL (cstA (.str "- ")) (consL (cstA (.str "a ")) nilL)))))))) (callF TT_law_take (consL (varA 1) (consL (cstA (.int 6)) nilL)))) (varA 0)))))))))))
def TT_law_changed : SpT := bodyT 3 (tt_law_changed)
theorem kk_law_changed {P : Program} {w : World} {K : PySem.W.Frag} {mg : Str → Option Value} {base : Heap} (T : Tx K mg) : FnOk P w K mg base CX0 2 T.f_law_changed T.d_law_changed ["text", "deck"] (spA 2 (TT_law_changed)) :=
  okA T.F_law_changed sc_law_changed fun cdv A outer s H E B hr =>
    (ss_consA (sa_set 2 sc_law_changed.nd (ea_op o_mod (ea_op o_add (ea_callF (kk_law_take T) (hr.mono (by decide)) T.g_law_take T.F_law_take.kp T.b_law_take (el_cons (ea_v 1) (el_cons ea_int el_nil))) (ea_op o_mulX ea_int (ea_callF (kk_law_take T) (hr.mono (by decide)) T.g_law_take T.F_law_take.kp T.b_law_take (el_cons (ea_v 1) (el_cons ea_int el_nil))))) (ea_op o_add (ea_blt c_len T.m_len (el_cons (ea_v 0) el_nil)) ea_int)))
      (ss_consA (sa_set 3 sc_law_changed.nd (ea_ix (hu1 hr) ea_str (ea_callF (kk_law_take T) (hr.mono (by decide)) T.g_law_take T.F_law_take.kp T.b_law_take (el_cons (ea_v 1) (el_cons ea_int el_nil)))))
      (ss_consA (sa_set 4 sc_law_changed.nd (ea_callF (kk_law_take T) (hr.mono (by decide)) T.g_law_take T.F_law_take.kp T.b_law_take (el_cons (ea_v 1) (el_cons ea_int el_nil))))
      (ss_consA (sa_if (et_cmp (o_eq hr.units) (ea_v 4) ea_int) (ss_oneA (sa_ret (ea_op o_add (ea_slHi (ea_v 0) (ea_v 2)) (ea_slLo (ea_v 0) (ea_op o_add (ea_v 2) ea_int))))) ss_nilA)
      (ss_consA (sa_if (et_cmp o_lt (ea_v 4) ea_int) (ss_oneA (sa_ret (ea_op o_add (ea_op o_add (ea_slHi (ea_v 0) (ea_v 2)) (ea_v 3)) (ea_slLo (ea_v 0) (ea_op o_sub (ea_op o_add (ea_v 2) (ea_v 4)) ea_int))))) ss_nilA)
      (ss_consA (sa_if (et_cmp (o_eq hr.units) (ea_v 4) ea_int) (ss_oneA (sa_ret (ea_op o_add (ea_op o_add (ea_slHi (ea_v 0) (ea_v 2)) (ea_revS (ea_slLH (ea_v 0) (ea_v 2) (ea_op o_add (ea_v 2) ea_int)))) (ea_slLo (ea_v 0) (ea_op o_add (ea_v 2) ea_int))))) ss_nilA)
      (ss_consA (sa_if (et_cmp (o_eq hr.units) (ea_v 4) ea_int) (ss_oneA (sa_ret (ea_op o_add (ea_op o_add (ea_slHi (ea_v 0) (ea_v 2)) (ea_slLH (ea_v 0) (ea_v 2) (ea_op o_add (ea_v 2) ea_int))) (ea_slLo (ea_v 0) (ea_v 2))))) ss_nilA)
      (ss_consA (sa_if (et_cmp (o_eq hr.units) (ea_v 4) ea_int) (ss_oneA (sa_ret (ea_op o_add (ea_v 0) (ea_ix (hu1 hr) (ea_frz (en_lst (el_cons ea_str (el_cons ea_str (el_cons ea_str (el_cons ea_str (el_cons ea_str (el_cons ea_str (el_cons ea_str (el_cons ea_str el_nil)))))))))) (ea_callF (kk_law_take T) (hr.mono (by decide)) T.g_law_take T.F_law_take.kp T.b_law_take (el_cons (ea_v 1) (el_cons ea_int el_nil))))))) ss_nilA)
      (ss_oneA (sa_ret (ea_op o_add (ea_ix (hu1 hr) (ea_frz (en_lst (el_cons ea_str (el_cons ea_str (el_cons ea_str (el_cons ea_str (el_cons ea_str (el_cons ea_str el_nil)))))))) (ea_callF (kk_law_take T) (hr.mono (by decide)) T.g_law_take T.F_law_take.kp T.b_law_take (el_cons (ea_v 1) (el_cons ea_int el_nil)))) (ea_v 0))))))))))))
def tt_law_lines_changed (m : Nat) : TSA := (seqA (setA 2 (ownA (splitN (varA 0) (cstA (.str "\n")))))
    (seqA (setA 3 (callF TT_law_take (consL (varA 1) (consL (bltA lenA (consL (varA 2) nilL)) nilL))))
    (seqA (setA 4 (frzA (splitN (opA ixA (varA 2) (varA 3)) (cstA (.str " ")))))
    (seqA (setA 5 (callF TT_law_take (consL (varA 1) (consL (cstA (.int 6)) nilL))))
    (seqA (ifA (opT (eqT false) (varA 5) (cstA (.int 0))) (setA 2 (ownA (opN catN (slHi (varA 2) (varA 3)) (slLo (varA 2) (opA addA (varA 3) (cstA (.int 1))))))) (ifA (opT (eqT false) (varA 5) (cstA (.int 1))) (setA 2 (ownA (opN catN (slHi (varA 2) (opA addA (varA 3) (cstA (.int 1)))) (slLo (varA 2) (varA 3))))) (ifA (opT (eqT false) (varA 5) (cstA (.int 2))) (putL (joinA (cstA (.str " ")) (frzA (revN (varA 4)))) (varA 2) (varA 3)) (ifA (opT (eqT false) (varA 5) (cstA (.int 3))) (putL (repl1A ": " "+k+k+k: " (opA ixA (varA 2) (varA 3))) (varA 2) (varA 3)) (ifA (opT (eqT false) (varA 5) (cstA (.int 4))) (putL (opA addA (opA addA (opA ixA (varA 2) (varA 3)) (cstA (.str " "))) (opA ixA (frzA (lstN (consL (cstA (.str "-")) (consL (cstA (.str "a")) (consL (cstA (.str "zzzz")) (consL (cstA (.str "zzzzz")) (consL (cstA (.str "")) nilL))))))) (callF TT_law_take (consL (varA 1) (consL (cstA (.int 5)) nilL))))) (varA 2) (varA 3)) (putL (repl1A "+" " " (opA ixA (varA 2) (varA 3))) (varA 2) (varA 3)))))))
    (retA (joinA (cstA (.str "\n")) (varA 2))))))))
def TT_law_lines_changed : SpT := bodyT 4 (tt_law_lines_changed)
theorem kk_law_lines_changed {P : Program} {w : World} {K : PySem.W.Frag} {mg : Str → Option Value} {base : Heap} (T : Tx K mg) : FnOk P w K mg base CX0 2 T.f_law_lines_changed T.d_law_lines_changed ["text", "deck"] (spA 2 (TT_law_lines_changed)) :=
  okA T.F_law_lines_changed sc_law_lines_changed fun cdv A outer s H E B hr =>
    (ss_consA (sa_set 2 sc_law_lines_changed.nd (ea_own (en_split (ea_v 0) ea_str)))
      (ss_consA (sa_set 3 sc_law_lines_changed.nd (ea_callF (kk_law_take T) (hr.mono (by decide)) T.g_law_take T.F_law_take.kp T.b_law_take (el_cons (ea_v 1) (el_cons (ea_blt c_len T.m_len (el_cons (ea_v 2) el_nil)) el_nil))))
      (ss_consA (sa_set 4 sc_law_lines_changed.nd (ea_frz (en_split (ea_ix (hu1 hr) (ea_v 2) (ea_v 3)) ea_str)))
      (ss_consA (sa_set 5 sc_law_lines_changed.nd (ea_callF (kk_law_take T) (hr.mono (by decide)) T.g_law_take T.F_law_take.kp T.b_law_take (el_cons (ea_v 1) (el_cons ea_int el_nil))))
      (ss_consA (sa_ifT (o_eq hr.units) (ea_v 5) (sst_of (ss_oneA (sa_set 2 sc_law_lines_changed.nd (ea_own (en_op o_cat (ea_slHi (ea_v 2) (ea_v 3)) (ea_slLo (ea_v 2) (ea_op o_add (ea_v 3) ea_int))))))) (sst_one (sat_if (et_cmp (o_eq hr.units) (ea_v 5) ea_int) (sst_of (ss_oneA (sa_set 2 sc_law_lines_changed.nd (ea_own (en_op o_cat (ea_slHi (ea_v 2) (ea_op o_add (ea_v 3) ea_int)) (ea_slLo (ea_v 2) (ea_v 3))))))) (sst_one (sat_if (et_cmp (o_eq hr.units) (ea_v 5) ea_int) (sst_of (ss_oneA (sa_putL (ea_join ea_str (ea_frz (en_rev (ea_v 4)))) (ea_v 2) (ea_v 3)))) (sst_one (sat_if (et_cmp (o_eq hr.units) (ea_v 5) ea_int) (sst_one (sat_putL (eat_repl1 (ea_ix (hu1 hr) (ea_v 2) (ea_v 3))) (ea_v 2) (ea_v 3))) (sst_one (sat_if (et_cmp (o_eq hr.units) (ea_v 5) ea_int) (sst_of (ss_oneA (sa_putL (ea_op o_add (ea_op o_add (ea_ix (hu1 hr) (ea_v 2) (ea_v 3)) ea_str) (ea_ix (hu1 hr) (ea_frz (en_lst (el_cons ea_str (el_cons ea_str (el_cons ea_str (el_cons ea_str (el_cons ea_str el_nil))))))) (ea_callF (kk_law_take T) (hr.mono (by decide)) T.g_law_take T.F_law_take.kp T.b_law_take (el_cons (ea_v 1) (el_cons ea_int el_nil))))) (ea_v 2) (ea_v 3)))) (sst_one (sat_putL (eat_repl1 (ea_ix (hu1 hr) (ea_v 2) (ea_v 3))) (ea_v 2) (ea_v 3))))))))))))
      (ss_oneA (sa_ret (ea_join ea_str (ea_v 2)))))))))
def tt_law_odd (m : Nat) : TSA := (seqA (setA 1 (frzA (lstN (consL (cstA (.str "")) (consL (cstA (.str " ")) (consL (cstA (.str "-")) (consL (cstA (.str "--")) (consL (cstA (.str "- ")) (consL (cstA (.str "-\n")) (consL (cstA (.str "-\n\n")) (consL (cstA (.str "a")) (consL (cstA (.str "a b")) (consL (cstA (.str "b a")) (consL (cstA (.str "a  b")) (consL (cstA (.str "a a")) nilL)))))))))))))))
    (seqA (setA 1 (opA addA (varA 1) (frzA (lstN (consL (cstA (.str "abcde")) (consL (cstA (.str "A")) (consL (cstA (.str "a-")) (consL (cstA (.str "- a")) (consL (cstA (.str "a -")) (consL (cstA (.str "-\na: -")) (consL (cstA (.str "-\na:-")) (consL (cstA (.str "-\na : -")) (consL (cstA (.str "-\na+b: -")) nilL)))))))))))))
    (seqA (setA 1 (opA addA (varA 1) (frzA (lstN (consL (cstA (.str "-\nb+a: -")) (consL (cstA (.str "-\na+a: a a")) (consL (cstA (.str "-\na+: -")) (consL (cstA (.str "-\n+a: -")) (consL (cstA (.str "-\n: -")) (consL (cstA (.str "-\n-: -")) (consL (cstA (.str "-\na")) nilL)))))))))))
    (seqA (setA 1 (opA addA (varA 1) (frzA (lstN (consL (cstA (.str "-\na: ")) (consL (cstA (.str "-\na:")) (consL (cstA (.str "-\na: b a")) (consL (cstA (.str "-\na: -\n")) (consL (cstA (.str "-\na+b+c+d: -")) (consL (cstA (.str "a: -")) nilL))))))))))
    (seqA (setA 1 (opA addA (varA 1) (frzA (lstN (consL (cstA (.str "-\na+b+c+d+e: -")) (consL (cstA (.str "-\na: - -")) (consL (cstA (.str "-\na: b: c")) (consL (cstA (.str "-; a: -")) (consL (cstA (.str "none")) (consL (cstA (.str "-\nA: -")) (consL (cstA (.str "-\na b: -")) nilL)))))))))))
    (retA (opA ixA (varA 1) (opA modA (varA 0) (bltA lenA (consL (varA 1) nilL))))))))))
def TT_law_odd : SpT := bodyT 1 (tt_law_odd)
theorem kk_law_odd {P : Program} {w : World} {K : PySem.W.Frag} {mg : Str → Option Value} {base : Heap} (T : Tx K mg) : FnOk P w K mg base CX0 1 T.f_law_odd T.d_law_odd ["number"] (spA 1 (TT_law_odd)) :=
  okA T.F_law_odd sc_law_odd fun cdv A outer s H E B hr =>
    (ss_consA (sa_set 1 sc_law_odd.nd (ea_frz (en_lst (el_cons ea_str (el_cons ea_str (el_cons ea_str (el_cons ea_str (el_cons ea_str (el_cons ea_str (el_cons ea_str (el_cons ea_str (el_cons ea_str (el_cons ea_str (el_cons ea_str (el_cons ea_str el_nil)))))))))))))))
      (ss_consA (sa_set 1 sc_law_odd.nd (ea_op o_add (ea_v 1) (ea_frz (en_lst (el_cons ea_str (el_cons ea_str (el_cons ea_str (el_cons ea_str (el_cons ea_str (el_cons ea_str (el_cons ea_str (el_cons ea_str (el_cons ea_str el_nil)))))))))))))
      (ss_consA (sa_set 1 sc_law_odd.nd (ea_op o_add (ea_v 1) (ea_frz (en_lst (el_cons ea_str (el_cons ea_str (el_cons ea_str (el_cons ea_str (el_cons ea_str (el_cons ea_str (el_cons ea_str el_nil)))))))))))
      (ss_consA (sa_set 1 sc_law_odd.nd (ea_op o_add (ea_v 1) (ea_frz (en_lst (el_cons ea_str (el_cons ea_str (el_cons ea_str (el_cons ea_str (el_cons ea_str (el_cons ea_str el_nil))))))))))
      (ss_consA (sa_set 1 sc_law_odd.nd (ea_op o_add (ea_v 1) (ea_frz (en_lst (el_cons ea_str (el_cons ea_str (el_cons ea_str (el_cons ea_str (el_cons ea_str (el_cons ea_str (el_cons ea_str el_nil)))))))))))
      (ss_oneA (sa_ret (ea_ix (hu1 hr) (ea_v 1) (ea_op o_mod (ea_v 0) (ea_blt c_len T.m_len (el_cons (ea_v 1) el_nil)))))))))))
def tt_law_shown (E : ExT) (m : Nat) : TSA := (seqA (setA 1 (cstA .none))
    (seqA (tryK E [.house, .text] "KeyroomError" 2 1 (fun W => (dropA (callXF (TT_show_house E) W (consL (varA 0) nilL)))))
    (seqA (ifA (valA (isiXT E [.house, .text] ["NoText", "NoKind", "NoNumber", "NoOrder", "NoPlain", "NoRow", "NoStep", "TooMany"] (varA 1))) (retA (cstA (.bool false))) nextA)
    (retA (andV (isiX E [.house, .text] "NoHouse" (varA 1)) (isiX E [.house, .text] "ValueError" (varA 1)))))))
def TT_law_shown (E : ExT) : SpT := bodyT 2 (tt_law_shown E)
theorem kk_law_shown {P : Program} {w : World} {K : PySem.W.Frag} {mg : Str → Option Value} {base : Heap} (T : Tx K mg) : FnOk P w K mg base CX0 6 T.f_law_shown T.d_law_shown ["thing"] (spA 1 (TT_law_shown T.E)) :=
  okA T.F_law_shown sc_law_shown fun cdv A outer s H E B hr =>
    (ss_consA (sa_set 1 sc_law_shown.nd ea_none)
      (ss_consA (sa_tryK 2 1 rfl rfl sc_law_shown.nd ⟨rfl, by decide, .inl T.x_KeyroomError⟩ T.h_KeyroomError (fun W _ _ tk hpo => (ss_oneA (sa_expr (ea_callXF (kk_show_house T) (hr.mono (by decide)) T.g_show_house T.F_show_house.kp T.b_show_house tk (el_cons (ea_v 0) el_nil))))))
      (ss_consA (sa_if (et_val (ea_isiXT (nms := ["NoText", "NoKind", "NoNumber", "NoOrder", "NoPlain", "NoRow", "NoStep", "TooMany"]) (cs := [(T.E.c .text), (T.E.c .kind), (T.E.c .number), (T.E.c .order), (T.E.c .plain), (T.E.c .row), (T.E.c .step), (T.E.c .many)].map V.ref) (cvs := [(T.E.c .text), (T.E.c .kind), (T.E.c .number), (T.E.c .order), (T.E.c .plain), (T.E.c .row), (T.E.c .step), (T.E.c .many)].map Value.ref) T.m_isinstance (ea_v 1) (pe_tup (pa_cons (pe_glob (v := .ref (T.E.c .text)) rfl T.g_NoText rfl) (pa_cons (pe_glob (v := .ref (T.E.c .kind)) rfl T.g_NoKind rfl) (pa_cons (pe_glob (v := .ref (T.E.c .number)) rfl T.g_NoNumber rfl) (pa_cons (pe_glob (v := .ref (T.E.c .order)) rfl T.g_NoOrder rfl) (pa_cons (pe_glob (v := .ref (T.E.c .plain)) rfl T.g_NoPlain rfl) (pa_cons (pe_glob (v := .ref (T.E.c .row)) rfl T.g_NoRow rfl) (pa_cons (pe_glob (v := .ref (T.E.c .step)) rfl T.g_NoStep rfl) (pa_cons (pe_glob (v := .ref (T.E.c .many)) rfl T.g_TooMany rfl) pa_nil))))))))) (fun _ _ _ k => ⟨(show 8 ≤ sizeLine by decide), k⟩) (fun _ h => vals_refs h) T.xC (fun n hn => (kitAny_cons (T.k_NoText n hn) (kitAny_cons (T.k_NoKind n hn) (kitAny_cons (T.k_NoNumber n hn) (kitAny_cons (T.k_NoOrder n hn) (kitAny_cons (T.k_NoPlain n hn) (kitAny_cons (T.k_NoRow n hn) (kitAny_cons (T.k_NoStep n hn) (kitAny_cons (T.k_TooMany n hn) kitAny_nil))))))))))) (ss_oneA (sa_ret ea_bool)) ss_nilA)
      (ss_oneA (sa_ret (ea_and (ea_isiX (c := .ref (T.E.c .house)) T.m_isinstance (ea_v 1) (pe_glob rfl T.g_NoHouse rfl) (fun _ h => h) T.xC T.k_NoHouse) (ea_one (ea_isiX (c := .ty "ValueError") T.m_isinstance (ea_v 1) (pe_bltn rfl T.m_ValueError (by decide +kernel) rfl) (fun _ h => h) T.xC T.k_ValueError))))))))
def tt_law_no_house (m : Nat) : TSA := (seqA (asgA (varA 1) (tup2G (nameG 2) (nameG 3)))
    (seqA (setA 4 (frzA (lstN (consL (tupA (consL (frzA (lstN (consL (cstA (.str "b")) (consL (cstA (.str "a")) nilL)))) (consL (frzA (lstN nilL)) nilL))) (consL (tupA (consL (frzA (lstN nilL)) (consL (frzA (lstN nilL)) nilL))) (consL (tupA (consL (opA mulX (frzA (lstN (consL (cstA (.str "a")) nilL))) (cstA (.int 5))) (consL (frzA (lstN nilL)) nilL))) (consL (tupA (consL (frzA (lstN (consL (cstA (.str "a")) nilL))) (consL (cstA (.str "a")) nilL))) (consL (tupA (consL (frzA (lstN (consL (cstA (.str "A")) nilL))) (consL (frzA (lstN nilL)) nilL))) nilL))))))))
    (seqA (setA 4 (opA addA (varA 4) (frzA (lstN (consL (tupA (consL (frzA (lstN (consL (cstA (.str "a")) nilL))) (consL (frzA (lstN (consL (cstA (.str "abcde")) nilL))) nilL))) (consL (tupA (consL (cstA (.str "a")) (consL (frzA (lstN nilL)) nilL))) (consL (frzA (lstN (consL (cstA (.str "a")) (consL (frzA (lstN nilL)) nilL)))) nilL)))))))
    (seqA (setA 5 (opA ixA (opA addA (varA 4) (frzA (lstN (consL (tupA (consL (frzA (lstN (consL (cstA (.str "a")) nilL))) nilL)) (consL (tupA (consL (frzA (lstN (consL (cstA (.str "a")) nilL))) (consL (frzA (lstN nilL)) (consL (cstA (.int 0)) nilL)))) (consL (cstA .none) (consL (tupA (consL (frzA (lstN (consL (cstA (.str "a")) (consL (cstA (.int 1)) nilL)))) (consL (frzA (lstN nilL)) nilL))) nilL))))))) (callF TT_law_take (consL (varA 0) (consL (cstA (.int 12)) nilL)))))
    (seqA (setA 6 (ownA (lstN (consL (tupA (consL (opA addA (varA 2) (frzA (lstN (consL (cstA (.str "A")) nilL)))) (consL (varA 3) nilL))) (consL (tupA (consL (opA addA (varA 2) (frzA (lstN (consL (cstA (.str "")) nilL)))) (consL (varA 3) nilL))) (consL (tupA (consL (bltA tupleA (consL (varA 2) nilL)) (consL (varA 3) nilL))) (consL (tupA (consL (varA 2) (consL (bltA tupleA (consL (varA 3) nilL)) nilL))) nilL)))))))
    (seqA (setA 6 (ownA (opN catN (varA 6) (frzA (lstN (consL (tupA (consL (varA 2) (consL (cstA .none) nilL))) (consL (cstA .none) (consL (tupA nilL) (consL (tupA (consL (varA 2) (consL (varA 3) (consL (cstA (.int 0)) nilL)))) (consL (frzA (bltN listTN (consL (varA 1) nilL))) (consL (varA 2) (consL (cstA (.str "-")) (consL (cstA (.int 0)) nilL)))))))))))))
    (seqA (setA 6 (ownA (opN catN (varA 6) (frzA (lstN (consL (tupA (consL (varA 3) (consL (opA addA (varA 2) (frzA (lstN (consL (cstA (.str "a")) nilL)))) nilL))) (consL (tupA (consL (opA addA (varA 2) (frzA (lstN (consL (cstA (.str "abcde")) nilL)))) (consL (varA 3) nilL))) nilL)))))))
    (seqA (setA 7 (callF TT_law_take (consL (varA 0) (consL (opA addA (bltA lenA (consL (varA 3) nilL)) (cstA (.int 1))) nilL))))
    (retA (opA ixA (opA addA (varA 6) (opA mulX (frzA (lstN (consL (tupA (consL (varA 2) (consL (opA addA (opA addA (slHi (varA 3) (varA 7)) (frzA (lstN (consL (varA 5) nilL)))) (slLo (varA 3) (varA 7))) nilL))) nilL))) (cstA (.int 10)))) (callF TT_law_take (consL (varA 0) (consL (cstA (.int 24)) nilL)))))))))))))
def TT_law_no_house : SpT := bodyT 6 (tt_law_no_house)
theorem kk_law_no_house {P : Program} {w : World} {K : PySem.W.Frag} {mg : Str → Option Value} {base : Heap} (T : Tx K mg) : FnOk P w K mg base CX0 2 T.f_law_no_house T.d_law_no_house ["deck", "house"] (spA 2 (TT_law_no_house)) :=
  okA T.F_law_no_house sc_law_no_house fun cdv A outer s H E B hr =>
    (ss_consA (sa_asg (ea_v 1) (gt_tup2 rfl (gt_name 2 sc_law_no_house.nd) (gt_name 3 sc_law_no_house.nd)))
      (ss_consA (sa_set 4 sc_law_no_house.nd (ea_frz (en_lst (el_cons (ea_tup (el_cons (ea_frz (en_lst (el_cons ea_str (el_cons ea_str el_nil)))) (el_cons (ea_frz (en_lst el_nil)) el_nil))) (el_cons (ea_tup (el_cons (ea_frz (en_lst el_nil)) (el_cons (ea_frz (en_lst el_nil)) el_nil))) (el_cons (ea_tup (el_cons (ea_op o_mulX (ea_frz (en_lst (el_cons ea_str el_nil))) ea_int) (el_cons (ea_frz (en_lst el_nil)) el_nil))) (el_cons (ea_tup (el_cons (ea_frz (en_lst (el_cons ea_str el_nil))) (el_cons ea_str el_nil))) (el_cons (ea_tup (el_cons (ea_frz (en_lst (el_cons ea_str el_nil))) (el_cons (ea_frz (en_lst el_nil)) el_nil))) el_nil))))))))
      (ss_consA (sa_set 4 sc_law_no_house.nd (ea_op o_add (ea_v 4) (ea_frz (en_lst (el_cons (ea_tup (el_cons (ea_frz (en_lst (el_cons ea_str el_nil))) (el_cons (ea_frz (en_lst (el_cons ea_str el_nil))) el_nil))) (el_cons (ea_tup (el_cons ea_str (el_cons (ea_frz (en_lst el_nil)) el_nil))) (el_cons (ea_frz (en_lst (el_cons ea_str (el_cons (ea_frz (en_lst el_nil)) el_nil)))) el_nil)))))))
      (ss_consA (sa_set 5 sc_law_no_house.nd (ea_ix (hu1 hr) (ea_op o_add (ea_v 4) (ea_frz (en_lst (el_cons (ea_tup (el_cons (ea_frz (en_lst (el_cons ea_str el_nil))) el_nil)) (el_cons (ea_tup (el_cons (ea_frz (en_lst (el_cons ea_str el_nil))) (el_cons (ea_frz (en_lst el_nil)) (el_cons ea_int el_nil)))) (el_cons ea_none (el_cons (ea_tup (el_cons (ea_frz (en_lst (el_cons ea_str (el_cons ea_int el_nil)))) (el_cons (ea_frz (en_lst el_nil)) el_nil))) el_nil))))))) (ea_callF (kk_law_take T) (hr.mono (by decide)) T.g_law_take T.F_law_take.kp T.b_law_take (el_cons (ea_v 0) (el_cons ea_int el_nil)))))
      (ss_consA (sa_set 6 sc_law_no_house.nd (ea_own (en_lst (el_cons (ea_tup (el_cons (ea_op o_add (ea_v 2) (ea_frz (en_lst (el_cons ea_str el_nil)))) (el_cons (ea_v 3) el_nil))) (el_cons (ea_tup (el_cons (ea_op o_add (ea_v 2) (ea_frz (en_lst (el_cons ea_str el_nil)))) (el_cons (ea_v 3) el_nil))) (el_cons (ea_tup (el_cons (ea_bty c_tuple T.m_tuple (el_cons (ea_v 2) el_nil)) (el_cons (ea_v 3) el_nil))) (el_cons (ea_tup (el_cons (ea_v 2) (el_cons (ea_bty c_tuple T.m_tuple (el_cons (ea_v 3) el_nil)) el_nil))) el_nil)))))))
      (ss_consA (sa_set 6 sc_law_no_house.nd (ea_own (en_op o_cat (ea_v 6) (ea_frz (en_lst (el_cons (ea_tup (el_cons (ea_v 2) (el_cons ea_none el_nil))) (el_cons ea_none (el_cons (ea_tup el_nil) (el_cons (ea_tup (el_cons (ea_v 2) (el_cons (ea_v 3) (el_cons ea_int el_nil)))) (el_cons (ea_frz (en_bty c_listT T.m_list (el_cons (ea_v 1) el_nil))) (el_cons (ea_v 2) (el_cons ea_str (el_cons ea_int el_nil)))))))))))))
      (ss_consA (sa_set 6 sc_law_no_house.nd (ea_own (en_op o_cat (ea_v 6) (ea_frz (en_lst (el_cons (ea_tup (el_cons (ea_v 3) (el_cons (ea_op o_add (ea_v 2) (ea_frz (en_lst (el_cons ea_str el_nil)))) el_nil))) (el_cons (ea_tup (el_cons (ea_op o_add (ea_v 2) (ea_frz (en_lst (el_cons ea_str el_nil)))) (el_cons (ea_v 3) el_nil))) el_nil)))))))
      (ss_consA (sa_set 7 sc_law_no_house.nd (ea_callF (kk_law_take T) (hr.mono (by decide)) T.g_law_take T.F_law_take.kp T.b_law_take (el_cons (ea_v 0) (el_cons (ea_op o_add (ea_blt c_len T.m_len (el_cons (ea_v 3) el_nil)) ea_int) el_nil))))
      (ss_oneA (sa_ret (ea_ix (hu1 hr) (ea_op o_add (ea_v 6) (ea_op o_mulX (ea_frz (en_lst (el_cons (ea_tup (el_cons (ea_v 2) (el_cons (ea_op o_add (ea_op o_add (ea_slHi (ea_v 3) (ea_v 7)) (ea_frz (en_lst (el_cons (ea_v 5) el_nil)))) (ea_slLo (ea_v 3) (ea_v 7))) el_nil))) el_nil))) ea_int)) (ea_callF (kk_law_take T) (hr.mono (by decide)) T.g_law_take T.F_law_take.kp T.b_law_take (el_cons (ea_v 0) (el_cons ea_int el_nil))))))))))))))
def tt_law (K : PySem.W.Frag) (E : ExT) (m : Nat) : TSA := (seqA (forA m (iterR1 (fun s Q => (bltA maxA (consL (cstA (.int 1)) (consL (bltA minA (consL (scrLen K 0) (consL (cstA (.int 12)) nilL))) nilL))) s fun x s1 => onSome x.int? fun j => -(2 ^ 62) ≤ j ∧ Q x s1)) (nameG 1) (seqA (setA 2 (callO TT_law_deck (consL (callF (TT_law_cell_at K) (consL (varA 0) (consL (varA 1) nilL))) (consL (cstA (.int 500)) nilL))))
    (seqA (setA 3 (ownA (slLoN (callF TT_law_numbers (consL (callF (TT_law_cell_at K) (consL (varA 0) (consL (varA 1) nilL))) (consL (cstA (.int 520)) nilL))) (cstA (.int 500)))))
    (seqA (setA 4 (callF TT_law_house (consL (varA 2) (consL (opA ixA (frzA (lstN (consL (cstA (.int 6)) (consL (cstA (.int 40)) nilL)))) (bltA intA (consL (boolA (opT (eqT false) (callF TT_law_take (consL (varA 2) (consL (cstA (.int 8)) nilL))) (cstA (.int 1)))) nilL))) (consL (cstA (.int 4)) nilL)))))
    (seqA (ifA (notA (valA (callF (TT_law_shown E) (consL (callF TT_law_no_house (consL (varA 3) (consL (varA 4) nilL))) nilL)))) (retA (cstA (.bool false))) nextA)
    (seqA (setA 5 (joinA (cstA (.str "\n")) (callF TT_law_lines (consL (varA 4) nilL))))
    (seqA (setA 6 (callF TT_law_take (consL (varA 3) (consL (cstA (.int 9)) nilL))))
    (seqA (ifA (opT ltT (varA 6) (cstA (.int 3))) (setA 5 (callF TT_law_changed (consL (varA 5) (consL (varA 3) nilL)))) nextA)
    (seqA (ifA (opT (eqT false) (varA 6) (cstA (.int 0))) (setA 5 (callF TT_law_changed (consL (varA 5) (consL (varA 3) nilL)))) nextA)
    (seqA (ifA (orA (opT (eqT false) (varA 6) (cstA (.int 3))) (opT (eqT false) (varA 6) (cstA (.int 4)))) (setA 5 (callF TT_law_lines_changed (consL (varA 5) (consL (varA 3) nilL)))) nextA)
    (seqA (ifA (opT (eqT false) (varA 6) (cstA (.int 5))) (setA 5 (callF TT_law_odd (consL (callF TT_law_take (consL (varA 3) (consL (cstA (.int 64)) nilL))) nilL))) nextA)
    (seqA (setA 7 (callF TT_law_read (consL (varA 5) nilL)))
    (seqA (ifA (andA (opT (eqT false) (varA 6) (cstA (.int 6))) (opT (eqT false) (callF TT_law_take (consL (varA 3) (consL (cstA (.int 2)) nilL))) (cstA (.int 0)))) (seqA (setA 5 (opA ixA (frzA (lstN (consL (cstA .none) (consL (cstA (.int 7)) (consL (frzA (lstN (consL (frzA (lstN nilL)) (consL (frzA (lstN nilL)) nilL)))) (consL (frzA (lstN (consL (cstA (.str "-")) nilL))) (consL (cstA (.bool true)) (consL (frzA newD) (consL (tupA (consL (cstA (.str "-")) nilL)) (consL (cstA (.int 0)) (consL (tupA nilL) (consL (tupA (consL (frzA (lstN nilL)) (consL (frzA (lstN nilL)) nilL))) nilL)))))))))))) (callF TT_law_take (consL (varA 3) (consL (cstA (.int 10)) nilL)))))
    (setA 7 (cstA .none))) nextA)
    (seqA (setA 8 (bltA strXA (consL (varA 5) nilL)))
    (seqA (asgA (callF (TT_law_asked E) (consL (varA 5) nilL)) (tup2G (nameG 9) (nameG 10)))
    (seqA (ifA (orA (opT (eqT true) (bltA strXA (consL (varA 5) nilL)) (varA 8)) (opT (eqT true) (varA 9) (opA ixA (frzA (lstN (consL (cstA (.str "told")) (consL (cstA (.str "NoText")) nilL)))) (bltA intA (consL (boolA (opT (isNT false) (varA 7) (cstA .none))) nilL))))) (retA (cstA (.bool false))) nextA)
    (ifA (andA (opT (isNT true) (varA 7) (cstA .none)) (notA (valA (callF TT_law_alike_r4 (consL (varA 10) (consL (varA 7) nilL)))))) (retA (cstA (.bool false))) nextA)))))))))))))))))
    (retA (cstA (.bool true))))
def TT_law (K : PySem.W.Frag) (E : ExT) : SpT := bodyT 10 (tt_law K E)
theorem kk_law {P : Program} {w : World} {K : PySem.W.Frag} {mg : Str → Option Value} {base : Heap} (T : Tx K mg) : FnG P w K mg base CX0 8 T.f_law T.d_law ["script"] (spA 1 (TT_law K T.E)) :=
  okAG T.F_law sc_law fun cdv A outer s H E B hgd hr =>
    (ss_consA (sa_for PassesOwn.never rfl (ia_range1 T.m_range (ea_blt (c_max rfl) T.m_max (el_cons ea_int (el_cons (ea_blt (c_min rfl) T.m_min (el_cons (ea_scrLen 0 T.m_len) (el_cons ea_int el_nil))) el_nil)))) (gt_name 1 sc_law.nd) (fun _ _ => (ss_consA (sa_set 2 sc_law.nd (ea_callO (kk_law_deck T) (hr.mono (by decide)) T.g_law_deck T.F_law_deck.kp T.b_law_deck (el_cons (ea_callF (kk_law_cell_at T) (hr.mono (by decide)) T.g_law_cell_at T.F_law_cell_at.kp T.b_law_cell_at (el_cons (ea_v 0) (el_cons (ea_v 1) el_nil))) (el_cons ea_int el_nil))))
      (ss_consA (sa_set 3 sc_law.nd (ea_own (en_slLo (ea_callF (kk_law_numbers T) (hr.mono (by decide)) T.g_law_numbers T.F_law_numbers.kp T.b_law_numbers (el_cons (ea_callF (kk_law_cell_at T) (hr.mono (by decide)) T.g_law_cell_at T.F_law_cell_at.kp T.b_law_cell_at (el_cons (ea_v 0) (el_cons (ea_v 1) el_nil))) (el_cons ea_int el_nil))) ea_int)))
      (ss_consA (sa_set 4 sc_law.nd (ea_callF (kk_law_house T) (hr.mono (by decide)) T.g_law_house T.F_law_house.kp T.b_law_house (el_cons (ea_v 2) (el_cons (ea_ix (hu1 hr) (ea_frz (en_lst (el_cons ea_int (el_cons ea_int el_nil)))) (ea_bty c_int T.m_int (el_cons (ea_cmp (o_eq hr.units) (ea_callF (kk_law_take T) (hr.mono (by decide)) T.g_law_take T.F_law_take.kp T.b_law_take (el_cons (ea_v 2) (el_cons ea_int el_nil))) ea_int) el_nil))) (el_cons ea_int el_nil)))))
      (ss_consA (sa_if (et_not (et_val (ea_callF (kk_law_shown T) (hr.mono (by decide)) T.g_law_shown T.F_law_shown.kp T.b_law_shown (el_cons (ea_callF (kk_law_no_house T) (hr.mono (by decide)) T.g_law_no_house T.F_law_no_house.kp T.b_law_no_house (el_cons (ea_v 3) (el_cons (ea_v 4) el_nil))) el_nil)))) (ss_oneA (sa_ret ea_bool)) ss_nilA)
      (ss_consA (sa_set 5 sc_law.nd (ea_join ea_str (ea_callF (kk_law_lines T) (hr.mono (by decide)) T.g_law_lines T.F_law_lines.kp T.b_law_lines (el_cons (ea_v 4) el_nil))))
      (ss_consA (sa_set 6 sc_law.nd (ea_callF (kk_law_take T) (hr.mono (by decide)) T.g_law_take T.F_law_take.kp T.b_law_take (el_cons (ea_v 3) (el_cons ea_int el_nil))))
      (ss_consA (sa_if (et_cmp o_lt (ea_v 6) ea_int) (ss_oneA (sa_set 5 sc_law.nd (ea_callF (kk_law_changed T) (hr.mono (by decide)) T.g_law_changed T.F_law_changed.kp T.b_law_changed (el_cons (ea_v 5) (el_cons (ea_v 3) el_nil))))) ss_nilA)
      (ss_consA (sa_if (et_cmp (o_eq hr.units) (ea_v 6) ea_int) (ss_oneA (sa_set 5 sc_law.nd (ea_callF (kk_law_changed T) (hr.mono (by decide)) T.g_law_changed T.F_law_changed.kp T.b_law_changed (el_cons (ea_v 5) (el_cons (ea_v 3) el_nil))))) ss_nilA)
      (ss_consA (sa_if (ET.of_w (ew_or (et_cmp (o_eq hr.units) (ea_v 6) ea_int) (ew_or1 (et_cmp (o_eq hr.units) (ea_v 6) ea_int)))) (ss_oneA (sa_set 5 sc_law.nd (ea_callF (kk_law_lines_changed T) (hr.mono (by decide)) T.g_law_lines_changed T.F_law_lines_changed.kp T.b_law_lines_changed (el_cons (ea_v 5) (el_cons (ea_v 3) el_nil))))) ss_nilA)
      (ss_consA (sa_if (et_cmp (o_eq hr.units) (ea_v 6) ea_int) (ss_oneA (sa_set 5 sc_law.nd (ea_callF (kk_law_odd T) (hr.mono (by decide)) T.g_law_odd T.F_law_odd.kp T.b_law_odd (el_cons (ea_callF (kk_law_take T) (hr.mono (by decide)) T.g_law_take T.F_law_take.kp T.b_law_take (el_cons (ea_v 3) (el_cons ea_int el_nil))) el_nil)))) ss_nilA)
      (ss_consA (sa_set 7 sc_law.nd (ea_callF (kk_law_read T) (hr.mono (by decide)) T.g_law_read T.F_law_read.kp T.b_law_read (el_cons (ea_v 5) el_nil)))
      (ss_consA (sa_if (ET.of_w (ew_and (et_cmp (o_eq hr.units) (ea_v 6) ea_int) (ew_and1 (et_cmp (o_eq hr.units) (ea_callF (kk_law_take T) (hr.mono (by decide)) T.g_law_take T.F_law_take.kp T.b_law_take (el_cons (ea_v 3) (el_cons ea_int el_nil))) ea_int)))) (ss_consA (sa_set 5 sc_law.nd (ea_ix (hu1 hr) (ea_frz (en_lst (el_cons ea_none (el_cons ea_int (el_cons (ea_frz (en_lst (el_cons (ea_frz (en_lst el_nil)) (el_cons (ea_frz (en_lst el_nil)) el_nil)))) (el_cons (ea_frz (en_lst (el_cons ea_str el_nil))) (el_cons ea_bool (el_cons (ea_frz en_dict) (el_cons (ea_tup (el_cons ea_str el_nil)) (el_cons ea_int (el_cons (ea_tup el_nil) (el_cons (ea_tup (el_cons (ea_frz (en_lst el_nil)) (el_cons (ea_frz (en_lst el_nil)) el_nil))) el_nil)))))))))))) (ea_callF (kk_law_take T) (hr.mono (by decide)) T.g_law_take T.F_law_take.kp T.b_law_take (el_cons (ea_v 3) (el_cons ea_int el_nil)))))
      (ss_oneA (sa_set 7 sc_law.nd ea_none))) ss_nilA)
      (ss_consA (sa_set 8 sc_law.nd (ea_bty (c_strX hgd hr.units) T.m_str (el_cons (ea_v 5) el_nil)))
      (ss_consA (sa_asg (ea_callF (kk_law_asked T) (hr.mono (by decide)) T.g_law_asked T.F_law_asked.kp T.b_law_asked (el_cons (ea_v 5) el_nil)) (gt_tup2 rfl (gt_name 9 sc_law.nd) (gt_name 10 sc_law.nd)))
      (ss_consA (sa_if (ET.of_w (ew_or (et_cmp (o_ne hr.units) (ea_bty (c_strX hgd hr.units) T.m_str (el_cons (ea_v 5) el_nil)) (ea_v 8)) (ew_or1 (et_cmp (o_ne hr.units) (ea_v 9) (ea_ix (hu1 hr) (ea_frz (en_lst (el_cons ea_str (el_cons ea_str el_nil)))) (ea_bty c_int T.m_int (el_cons (ea_cmp o_isN (ea_v 7) ea_none) el_nil))))))) (ss_oneA (sa_ret ea_bool)) ss_nilA)
      (ss_oneA (sa_if (ET.of_w (ew_and (et_cmp o_notN (ea_v 7) ea_none) (ew_and1 (et_not (et_val (ea_callF (kk_law_alike_r4 T) (hr.mono (by decide)) T.g_law_alike T.F_law_alike.kp T.b_law_alike (el_cons (ea_v 10) (el_cons (ea_v 7) el_nil)))))))) (ss_oneA (sa_ret ea_bool)) ss_nilA)))))))))))))))))))
      (ss_oneA (sa_ret ea_bool)))
theorem keep_names : True := by
  first
    | trivial
    | simp only [bodyT, retA, boolA, nilT, frzA, ownA, lcN, iterL, ioT, iterE, iterR1, iterR2, varA, nameG, opT, opA, opN, cstA, mtL, mtL0, consL, nilL, setA, dropA, forA, bltA, bltN, asgA, ifA, nextA, retN, andA, orA, notA, valA, andV, orV, notV, ifV, tupA, lstN, putS, augS, callF, callO, callW, intOp, intOp0, intT, subA, modA, fdivA, leT, gtT, geT, eqT, catN, repN, chainT, negA, joinA, ssetN, slHi, slLo, slHiN, slLoN, slN, listN, sumA, minA, maxA, isiT, appendA, extendA, removeA, popA, popAtA, clearA, countA, newD, retD, neverA, yesA, lcStep, refsOf, subC, putC, datas, wipeA, ksD, roomD, houseD, retP_d, retP_rE, addA_int, addA_str, addA_lst, addA_r, mulA_int, mulA_lst, mulA_r, ltT_str, ltT_int, ixA_V, slA_V, inT_V, tup2G_V, tup3G_V, lenA_V, sortedN_V, getA2_V, isDct_V, onLst_r, onDct_r, intA_int, intA_bool, fzA_V, resF_f, resF_n, resO_f, resO_n, listOf_r, listOf_d, fzList_r, fzList_d, isLst_r, isLst_d, view_r, view_d, viewD_list, viewD_tuple, viewD_str, viewD_dictD, tyOf_r, tyOf_d, tupOf_r, tupOf_d, tupOf_dl, tupC_lst, tupC_fzl, scrLen_0, iterO_V, eqOk_int, eqOk_str, eqOk_bool, eqv_int, eqv_str, eqv_bool, kb_ll, kb_ii, kb_ib, kb_bb, kb_bi, kb_ss, kb_tt, kb_dd, AVal.int?_int, AVal.str?_str, AVal.bool?_bool, AVal.data?_d, flatD_strs, flatD_ints, flatD_nats, inD_str, inD_int, inD_nat, onSome_some, List.map_cons, List.map_nil, List.cons_append, List.nil_append, List.append_nil, List.replicate_succ, List.replicate_zero, List.getElem?_cons_zero, List.getElem?_cons_succ, Option.bind_some, Option.bind_none, Option.map_some, Option.getD_some, id_eq, List.set_cons_zero, List.set_cons_succ, List.length_cons, List.length_nil, List.take_succ_cons, List.take_zero, List.take_nil, List.idxOf_cons_self, List.length_map, strs?_map, ints?_map, atI_0, atI_1, atI_2, atI_map, srtD_strs, srtD_ints, true_and, and_true, List.all_nil, List.all_cons, Bool.and_self, Bool.and_true, Bool.true_and, List.nodup_nil, nodup1, forall_const, Bool.bne_false, Bool.bne_true, List.isEmpty_nil, Bool.not_true, Bool.not_false, Nat.zero_add, Nat.le_refl, Nat.zero_le, decide_true, decide_false, eq_self, Bool.false_eq_true, Bool.true_eq_false, if_true, if_false, true_implies, Bool.false_and, Bool.and_false, Bool.not_eq_true, Bool.or_false, Bool.or_true, Bool.false_or, Bool.true_or, ixV_seq, ixV_dct, ixV_txt, slV_txt, slV_seq, inV'_dct, inV'_txt, inV'_seq, tup2V_2, tup3V_3, lenV_seq, lenV_dct, lenV_txt, sortV_dct, sortV_seq, gotV_dct, isDctV_dct, lstC_lst, dctC_dK, fzV_r, fzV_d, fzC_fz, fzC_lst, fzC_dK, listC_lst, listC_fz, fzListC_fz, isLstC_lst, isLstC_fz, isLstC_nl, viewC_lst, viewC_nl, viewC_nt, viewC_dK, viewC_nd, viewC_fz, tyC_lst, tyC_dK, tyC_fz, tupC_nt, tupC_fz, iterOV_r, iterOV_d, iterOC_lst, iterOC_fz, retC_fz, retC_lst, retC_dK, retC_pool, one_1, two_2, ren_r, ren_d, ren_s, frzC_lst, frzC_dK, frzC_fz, dataOf_d, dataOf_r, flat_lst, flat_dK, flat_pool, flat_fz, key?_int, key?_str, tyN_list, tyN_int, tyN_bool, tyN_str, tyN_tuple, tyN_dictD, tyN_none, flatD_int, flatD_str, eqDT, dictN, clearD, iterT, tupL_tup, dctOf_d, dctOf_r, dkC_dK, dkC_dl, dkC_fz, dctD_dictD, keysOf_dictD, forDA, forDV_d, forDV_r, forDC_dK, viewC_dl, okG, DA.unl, iterD, keysV_d, forHA, iterH, ihV_d, ihV_r, ihC_lst, ihC_fz, DA.okN, pass_lst, pass_dK, pass_pool, pass_fz, pass_tr, flat_tr, flat_gone, cellD_lst, cellD_dK, cellD_fz, cellD_tr, listC_tr, listOf_a, leafL_l, isLstC_tr, isLst_a, viewC_tr, viewT_l, viewT_t, viewT_d, view_a, nodeAt_a, nodeAt_r, tyC_tr, tyOf_a, kdTy_lst, kdTy_tup, kdTy_dct, ren_a, addA_a, resO_t, resO_p, retC_tr, retC_nt, parts, newsOf, partN, resU, backs, backN, callU, two2, dspT, appendT, clearT, extendT, putL, putLV, putLC, putT, onT, treeAt, treeC, fzT, fzTV, fzTC, bodyT0, insertA, revN, mulX_int, mulX_str, mulX_lst, mulX_r, grabs, grab, grabC, asT, asTC, mvL, mvS_r, mvS_d, mvS_a, mvA_r, mvA_a, mvA_d, mvA_s, gone_gone, gone_fz, gone_tr, gone_lst, at_nil, at_cons, put_nil, put_cons, Option.map_none, tupR, listR1, iterOV_a, leafs_map, nodeK, nilTT, emptyV_r, emptyC_l, emptyC_t, isNT, isBT, noneV_none, noneV_list, noneV_r, tcatA, tslA, tslHi, tslLo, tupD_t, listDN_V, listDV_dct, sortedDN_1, iterKC, iterKC_r, keysC_dK, leST, lenSetA, srtVN_V, srtVV_dct, dictDN_V, dictDV_dct, txtVals_dkv, datKV_dkv, bodyTX, callXF, callXO, callWX, excP, raiseA, raiseStepA, flatX_int, flatX_none, tryK, isiX, isiXT, atX, reprXA, tupleA, countBA, indexA, dat?_d, exOf_errE, bools?_nil, bools?_cons, noneV_err, List.any_cons, List.any_nil, sx_house_NoHouse, sx_house_NoPlain, sx_house_NoOrder, sx_house_NoNumber, sx_house_NoKind, sx_house_TooMany, sx_house_NoText, sx_house_NoRow, sx_house_NoStep, sx_house_KeyroomError, sx_house_ValueError, sx_house_KeyError, sx_plain_NoHouse, sx_plain_NoPlain, sx_plain_NoOrder, sx_plain_NoNumber, sx_plain_NoKind, sx_plain_TooMany, sx_plain_NoText, sx_plain_NoRow, sx_plain_NoStep, sx_plain_KeyroomError, sx_plain_ValueError, sx_plain_KeyError, sx_order_NoHouse, sx_order_NoPlain, sx_order_NoOrder, sx_order_NoNumber, sx_order_NoKind, sx_order_TooMany, sx_order_NoText, sx_order_NoRow, sx_order_NoStep, sx_order_KeyroomError, sx_order_ValueError, sx_order_KeyError, sx_number_NoHouse, sx_number_NoPlain, sx_number_NoOrder, sx_number_NoNumber, sx_number_NoKind, sx_number_TooMany, sx_number_NoText, sx_number_NoRow, sx_number_NoStep, sx_number_KeyroomError, sx_number_ValueError, sx_number_KeyError, sx_kind_NoHouse, sx_kind_NoPlain, sx_kind_NoOrder, sx_kind_NoNumber, sx_kind_NoKind, sx_kind_TooMany, sx_kind_NoText, sx_kind_NoRow, sx_kind_NoStep, sx_kind_KeyroomError, sx_kind_ValueError, sx_kind_KeyError, sx_many_NoHouse, sx_many_NoPlain, sx_many_NoOrder, sx_many_NoNumber, sx_many_NoKind, sx_many_TooMany, sx_many_NoText, sx_many_NoRow, sx_many_NoStep, sx_many_KeyroomError, sx_many_ValueError, sx_many_KeyError, sx_text_NoHouse, sx_text_NoPlain, sx_text_NoOrder, sx_text_NoNumber, sx_text_NoKind, sx_text_TooMany, sx_text_NoText, sx_text_NoRow, sx_text_NoStep, sx_text_KeyroomError, sx_text_ValueError, sx_text_KeyError, sx_row_NoHouse, sx_row_NoPlain, sx_row_NoOrder, sx_row_NoNumber, sx_row_NoKind, sx_row_TooMany, sx_row_NoText, sx_row_NoRow, sx_row_NoStep, sx_row_KeyroomError, sx_row_ValueError, sx_row_KeyError, sx_step_NoHouse, sx_step_NoPlain, sx_step_NoOrder, sx_step_NoNumber, sx_step_NoKind, sx_step_TooMany, sx_step_NoText, sx_step_NoRow, sx_step_NoStep, sx_step_KeyroomError, sx_step_ValueError, sx_step_KeyError, mulSA_str, mulSA_list, reprXA, dat?_d, stripCA, dictEnumN, makeO, methF, methO, attrA, objAt, objN_o, kidsAt, valT_d, valT_nd, valT_k, setFA, setO_none, setO_some, bitsA, augN, dispA, iterP, forPA, pkI, pkV, pkF, dcAt, dcN_k, viewT_k, zip_kids, zip_kv, dctK, dispTT, slLH, putN, tupleA, iterTx, bodyTI, retI, AVal.isD, getTT, putTO, dispTO, sortLRN, inTup, sortedTN_1, tupD_t, sortedBN_1, sortedBV_d, methXF, tup4G_V, tup4V_4, listTN_1, eitherA, orDV, truD_none, truD_list, callN, ptsOf, renT, subT, backT, putU, putG, repl1A, disp3N, seq_set, seq_drop, seq_asg, seq_callU, seq_putS, seq_putL, seq_for, seq_next, seq_aug, seq_seq, seq_forD, seq_forH]
local macro_rules
  | `(tactic| simp_arith! [$ls,*] $[$loc]?) => do
    let xs ← (("bodyT retA boolA nilT frzA ownA lcN iterL ioT iterE iterR1 iterR2 varA nameG opT opA opN cstA mtL mtL0 consL nilL setA dropA forA bltA bltN asgA ifA nextA retN andA orA notA valA andV orV notV ifV tupA lstN putS augS callF callO callW intOp intOp0 intT subA modA fdivA leT gtT geT eqT catN repN chainT negA joinA ssetN slHi slLo slHiN slLoN slN listN sumA minA maxA isiT appendA extendA removeA popA popAtA clearA countA newD retD neverA yesA lcStep refsOf subC putC datas wipeA ksD roomD houseD retP_d retP_rE addA_int addA_str addA_lst addA_r mulA_int mulA_lst mulA_r ltT_str ltT_int ixA_V slA_V inT_V tup2G_V tup3G_V lenA_V sortedN_V getA2_V isDct_V onLst_r onDct_r intA_int intA_bool fzA_V resF_f resF_n resO_f resO_n listOf_r listOf_d fzList_r fzList_d isLst_r isLst_d view_r view_d viewD_list viewD_tuple viewD_str viewD_dictD tyOf_r tyOf_d tupOf_r tupOf_d tupOf_dl tupC_lst tupC_fzl scrLen_0 iterO_V eqOk_int eqOk_str eqOk_bool eqv_int eqv_str eqv_bool kb_ll kb_ii kb_ib kb_bb kb_bi kb_ss kb_tt kb_dd AVal.int?_int AVal.str?_str AVal.bool?_bool AVal.data?_d flatD_strs flatD_ints flatD_nats inD_str inD_int inD_nat onSome_some List.map_cons List.map_nil List.cons_append List.nil_append List.append_nil List.replicate_succ List.replicate_zero List.getElem?_cons_zero List.getElem?_cons_succ Option.bind_some Option.bind_none Option.map_some Option.getD_some id_eq List.set_cons_zero List.set_cons_succ List.length_cons List.length_nil List.take_succ_cons List.take_zero List.take_nil List.idxOf_cons_self List.length_map strs?_map ints?_map atI_0 atI_1 atI_2 atI_map srtD_strs srtD_ints true_and and_true List.all_nil List.all_cons Bool.and_self Bool.and_true Bool.true_and List.nodup_nil nodup1 forall_const Bool.bne_false Bool.bne_true List.isEmpty_nil Bool.not_true Bool.not_false Nat.zero_add Nat.le_refl Nat.zero_le decide_true decide_false eq_self Bool.false_eq_true Bool.true_eq_false if_true if_false true_implies Bool.false_and Bool.and_false Bool.not_eq_true Bool.or_false Bool.or_true Bool.false_or Bool.true_or ixV_seq ixV_dct ixV_txt slV_txt slV_seq inV'_dct inV'_txt inV'_seq tup2V_2 tup3V_3 lenV_seq lenV_dct lenV_txt sortV_dct sortV_seq gotV_dct isDctV_dct lstC_lst dctC_dK fzV_r fzV_d fzC_fz fzC_lst fzC_dK listC_lst listC_fz fzListC_fz isLstC_lst isLstC_fz isLstC_nl viewC_lst viewC_nl viewC_nt viewC_dK viewC_nd viewC_fz tyC_lst tyC_dK tyC_fz tupC_nt tupC_fz iterOV_r iterOV_d iterOC_lst iterOC_fz retC_fz retC_lst retC_dK retC_pool one_1 two_2 ren_r ren_d ren_s frzC_lst frzC_dK frzC_fz dataOf_d dataOf_r flat_lst flat_dK flat_pool flat_fz key?_int key?_str tyN_list tyN_int tyN_bool tyN_str tyN_tuple tyN_dictD tyN_none flatD_int flatD_str eqDT dictN clearD iterT tupL_tup dctOf_d dctOf_r dkC_dK dkC_dl dkC_fz dctD_dictD keysOf_dictD forDA forDV_d forDV_r forDC_dK viewC_dl okG DA.unl iterD keysV_d forHA iterH ihV_d ihV_r ihC_lst ihC_fz DA.okN pass_lst pass_dK pass_pool pass_fz pass_tr flat_tr flat_gone cellD_lst cellD_dK cellD_fz cellD_tr listC_tr listOf_a leafL_l isLstC_tr isLst_a viewC_tr viewT_l viewT_t viewT_d view_a nodeAt_a nodeAt_r tyC_tr tyOf_a kdTy_lst kdTy_tup kdTy_dct ren_a addA_a resO_t resO_p retC_tr retC_nt parts newsOf partN resU backs backN callU two2 dspT appendT clearT extendT putL putLV putLC putT onT treeAt treeC fzT fzTV fzTC bodyT0 insertA revN mulX_int mulX_str mulX_lst mulX_r grabs grab grabC asT asTC mvL mvS_r mvS_d mvS_a mvA_r mvA_a mvA_d mvA_s gone_gone gone_fz gone_tr gone_lst at_nil at_cons put_nil put_cons Option.map_none tupR listR1 iterOV_a leafs_map nodeK nilTT emptyV_r emptyC_l emptyC_t isNT isBT noneV_none noneV_list noneV_r tcatA tslA tslHi tslLo tupD_t listDN_V listDV_dct sortedDN_1 iterKC iterKC_r keysC_dK leST lenSetA srtVN_V srtVV_dct dictDN_V dictDV_dct txtVals_dkv datKV_dkv bodyTX callXF callXO callWX excP raiseA raiseStepA flatX_int flatX_none tryK isiX isiXT atX reprXA tupleA countBA indexA dat?_d exOf_errE bools?_nil bools?_cons noneV_err List.any_cons List.any_nil sx_house_NoHouse sx_house_NoPlain sx_house_NoOrder sx_house_NoNumber sx_house_NoKind sx_house_TooMany sx_house_NoText sx_house_NoRow sx_house_NoStep sx_house_KeyroomError sx_house_ValueError sx_house_KeyError sx_plain_NoHouse sx_plain_NoPlain sx_plain_NoOrder sx_plain_NoNumber sx_plain_NoKind sx_plain_TooMany sx_plain_NoText sx_plain_NoRow sx_plain_NoStep sx_plain_KeyroomError sx_plain_ValueError sx_plain_KeyError sx_order_NoHouse sx_order_NoPlain sx_order_NoOrder sx_order_NoNumber sx_order_NoKind sx_order_TooMany sx_order_NoText sx_order_NoRow sx_order_NoStep sx_order_KeyroomError sx_order_ValueError sx_order_KeyError sx_number_NoHouse sx_number_NoPlain sx_number_NoOrder sx_number_NoNumber sx_number_NoKind sx_number_TooMany sx_number_NoText sx_number_NoRow sx_number_NoStep sx_number_KeyroomError sx_number_ValueError sx_number_KeyError sx_kind_NoHouse sx_kind_NoPlain sx_kind_NoOrder sx_kind_NoNumber sx_kind_NoKind sx_kind_TooMany sx_kind_NoText sx_kind_NoRow sx_kind_NoStep sx_kind_KeyroomError sx_kind_ValueError sx_kind_KeyError sx_many_NoHouse sx_many_NoPlain sx_many_NoOrder sx_many_NoNumber sx_many_NoKind sx_many_TooMany sx_many_NoText sx_many_NoRow sx_many_NoStep sx_many_KeyroomError sx_many_ValueError sx_many_KeyError sx_text_NoHouse sx_text_NoPlain sx_text_NoOrder sx_text_NoNumber sx_text_NoKind sx_text_TooMany sx_text_NoText sx_text_NoRow sx_text_NoStep sx_text_KeyroomError sx_text_ValueError sx_text_KeyError sx_row_NoHouse sx_row_NoPlain sx_row_NoOrder sx_row_NoNumber sx_row_NoKind sx_row_TooMany sx_row_NoText sx_row_NoRow sx_row_NoStep sx_row_KeyroomError sx_row_ValueError sx_row_KeyError sx_step_NoHouse sx_step_NoPlain sx_step_NoOrder sx_step_NoNumber sx_step_NoKind sx_step_TooMany sx_step_NoText sx_step_NoRow sx_step_NoStep sx_step_KeyroomError sx_step_ValueError sx_step_KeyError mulSA_str mulSA_list reprXA dat?_d stripCA dictEnumN makeO methF methO attrA objAt objN_o kidsAt valT_d valT_nd valT_k setFA setO_none setO_some bitsA augN dispA iterP forPA pkI pkV pkF dcAt dcN_k viewT_k zip_kids zip_kv dctK dispTT slLH putN tupleA iterTx bodyTI retI AVal.isD getTT putTO dispTO sortLRN inTup sortedTN_1 tupD_t sortedBN_1 sortedBV_d methXF tup4G_V tup4V_4 listTN_1 eitherA orDV truD_none truD_list callN ptsOf renT subT backT putU putG repl1A disp3N".splitOn ).toArray.map fun n => n.toName).mapM fun n => `(Lean.Parser.Tactic.simpLemma| $(Lean.mkIdent n):term)
    let ys : Lean.TSyntaxArray [`Lean.Parser.Tactic.simpStar, `Lean.Parser.Tactic.simpErase, `Lean.Parser.Tactic.simpLemma] := ls.getElems ++ xs.map fun x => ⟨x⟩
    `(tactic| simp only [$ys,*] $[$loc]?)
local macro_rules
  | `(tactic| simp_arith [$ls,*] $[$loc]?) => `(tactic| simp_arith! [$ls,*, seqA] $[$loc]?)
local macro_rules
  | `(tactic| simp_all_arith! [$ls,*]) => do
    let xs ← (("seq_set seq_drop seq_asg seq_callU seq_putS seq_putL seq_for seq_next seq_aug seq_seq seq_forD seq_forH".splitOn ).toArray.map fun n => n.toName).mapM fun n => `(Lean.Parser.Tactic.simpLemma| $(Lean.mkIdent n):term)
    let ys : Lean.TSyntaxArray [`Lean.Parser.Tactic.simpStar, `Lean.Parser.Tactic.simpErase, `Lean.Parser.Tactic.simpLemma] := (ls.getElems.map fun x => ⟨x.raw⟩) ++ xs.map fun x => ⟨x.raw⟩
    `(tactic| simp_arith! [$ys,*])
local macro_rules
  | `(tactic| simp_all_arith [$ls,*]) => `(tactic| simp_arith! [$ls,*, seqA, Nat.reduceAdd, Nat.reduceEqDiff, Nat.reduceSub, Nat.reduceLT, false_and, and_false, reduceCtorEq, Nat.reduceLeDiff])
/-! part p_nats -/
theorem intsD_natE (n : Nat) : intsD 0 (n : Int) = (List.range n).map fun k : Nat => PyData.int (k : Int) := by
  unfold intsD
  rw [show ((n : Int) - 0).toNat = n by omega]
  refine List.map_congr_left fun k _ => ?_
  rw [Int.zero_add]
/-! part p_misc -/
theorem maxmin (n : Nat) (c : Nat) (hc : 1 ≤ c) : ∃ J : Nat, max 1 (min (c : Int) (n : Int)) = (J : Int) ∧ J ≤ c := by
  refine ⟨max 1 (min c n), ?_, by omega⟩
  omega
theorem cutD_take (ds : List PyData) (n : Nat) : cutD ds none (some (n : Int)) = ds.take n := by
  unfold cutD
  rw [HT.sIx_none, HT.sIx_nat, List.drop_zero, Nat.sub_zero]
  by_cases h : n ≤ ds.length
  · rw [Nat.min_eq_left h]
  · rw [Nat.min_eq_right (by omega), List.take_length, List.take_of_length_le (by omega)]
theorem CanGo.take {h : House} {order : List Nat} (c : CanGo h order) (n : Nat) : CanGo h (order.take n) := by
  refine ⟨c.nd.sublist (List.take_sublist _ _), fun i k hk => ?_⟩
  have hi := (List.getElem?_eq_some_iff.mp hk).1
  rw [List.length_take] at hi
  rw [List.getElem?_take_of_lt (by omega)] at hk
  obtain ⟨r, hr, hm⟩ := c.step i k hk
  exact ⟨r, hr, by rw [List.take_take, Nat.min_eq_left (by omega)]; exact hm⟩
theorem eqOk_lay {n m : Nat} {d e : PyData} (h1 : Lay n d) (h2 : Lay m e) (hn : n ≤ 64 := by decide) (hm : m ≤ 64 := by decide) : eqOk d e := by
  have a := h1.shaped hn
  have b := h2.shaped hm
  unfold eqOk
  split <;> first | trivial | exact ⟨a, b⟩
theorem iteE {x : Bool} {a b : Prop} [Decidable ((!x) = true)] (h : x = true) (hb : b) : (if (!x) = true then a else b) := by subst h; rw [if_neg (by simp)]; exact hb
/-! part p_text -/
theorem str_extL {a b : Str} (h : a.cps.toList = b.cps.toList) : a = b := Str.ext' (Array.toList_inj.mp h)
theorem str_app (a b : Str) : (a ++ b).cps.toList = a.cps.toList ++ b.cps.toList := by rw [Str.cps_append, Array.toList_append]
theorem cut_one {c : Nat} : ∀ {a b s t : List Nat}, c ∉ a → c ∉ b → a ++ c :: s = b ++ c :: t → a = b ∧ s = t
  | [], [], s, t, _, _, e => by simpa using e
  | [], y :: b, s, t, _, hb, e => by
    rw [List.nil_append, List.cons_append] at e
    injection e with e1 _
    exact absurd (e1 ▸ List.mem_cons_self ..) hb
  | x :: a, [], s, t, ha, _, e => by
    rw [List.nil_append, List.cons_append] at e
    injection e with e1 _
    exact absurd (e1 ▸ List.mem_cons_self ..) ha
  | x :: a, y :: b, s, t, ha, hb, e => by
    rw [List.cons_append, List.cons_append] at e
    injection e with e1 e2
    obtain ⟨h1, h2⟩ := cut_one (fun z => ha (List.mem_cons_of_mem _ z)) (fun z => hb (List.mem_cons_of_mem _ z)) e2
    exact ⟨by rw [e1, h1], h2⟩
theorem join_cons (sep x y : Str) (r : List Str) : Str.join sep (x :: y :: r) = x ++ sep ++ Str.join sep (y :: r) := rfl
theorem join_one {c : Nat} : ∀ {xs ys : List Str}, xs ≠ [] → ys ≠ [] → (∀ x ∈ xs, c ∉ x.cps.toList) → (∀ y ∈ ys, c ∉ y.cps.toList) → Str.join ⟨#[c]⟩ xs = Str.join ⟨#[c]⟩ ys → xs = ys
  | [], _, h, _, _, _, _ => absurd rfl h
  | _, [], _, h, _, _, _ => absurd rfl h
  | [x], [y], _, _, _, _, e => by
    have e : x = y := e
    rw [e]
  | [x], y :: y2 :: ys, _, _, hx, _, e => by
    have e : x = y ++ ⟨#[c]⟩ ++ Str.join ⟨#[c]⟩ (y2 :: ys) := e
    refine absurd ?_ (hx x (List.mem_cons_self ..))
    rw [e, str_app, str_app]
    simp
  | x :: x2 :: xs, [y], _, _, _, hy, e => by
    have e : x ++ ⟨#[c]⟩ ++ Str.join ⟨#[c]⟩ (x2 :: xs) = y := e
    refine absurd ?_ (hy y (List.mem_cons_self ..))
    rw [← e, str_app, str_app]
    simp
  | x :: x2 :: xs, y :: y2 :: ys, _, _, hx, hy, e => by
    rw [join_cons, join_cons] at e
    have e := congrArg (fun s : Str => s.cps.toList) e
    simp only [str_app, List.append_assoc] at e
    obtain ⟨h1, h2⟩ := cut_one (hx x (List.mem_cons_self ..)) (hy y (List.mem_cons_self ..)) e
    rw [str_extL h1, join_one (xs := x2 :: xs) (ys := y2 :: ys) (by simp) (by simp) (fun z hz => hx z (List.mem_cons_of_mem _ hz)) (fun z hz => hy z (List.mem_cons_of_mem _ hz)) (str_extL h2)]
theorem txt_join (sep : Str) (xs : List Str) : Txt.join sep xs = Str.join sep xs := StrLaws.glued_eq_join sep xs
theorem split_join {c : Nat} {xs : List Str} (h0 : xs ≠ []) (hx : ∀ x ∈ xs, c ∉ x.cps.toList) : Txt.split (Txt.join ⟨#[c]⟩ xs) ⟨#[c]⟩ = xs := by
  refine join_one (c := c) (fun z => ?_) h0 (StrLaws.split_free _ c) hx ?_
  · have := PyProof.Rows.split_pos (Txt.join ⟨#[c]⟩ xs) ⟨#[c]⟩
    rw [z] at this
    simp at this
  · rw [StrLaws.join_split, txt_join]
theorem part_at {c d : Nat} {a b : Str} (ha : c ∉ a.cps.toList) : Txt.partition (a ++ ⟨#[c, d]⟩ ++ b) ⟨#[c, d]⟩ = (a, ⟨#[c, d]⟩, b) := by
  have hx : (a ++ ⟨#[c, d]⟩ ++ b).cps.toList = a.cps.toList ++ c :: d :: b.cps.toList := by rw [str_app, str_app]; simp
  have hl : (a ++ ⟨#[c, d]⟩ ++ b).length = a.length + 2 + b.length := by
    rw [Str.length_append, Str.length_append]; rfl
  have la : a.cps.toList.length = a.length := by simp [Str.length]
  have at_ : StrLaws.At (a ++ ⟨#[c, d]⟩ ++ b) ⟨#[c, d]⟩ (a ++ ⟨#[c, d]⟩ ++ b).length a.length := by
    refine ⟨by rw [hl]; show a.length + 2 ≤ _; omega, ?_⟩
    rw [StrLaws.subAt_eq, hx, ← la, List.drop_left]
    show (List.take 2 (c :: d :: b.cps.toList) == [c, d]) = true
    simp
  rcases PyProof.Rows.partition_whole (a ++ ⟨#[c, d]⟩ ++ b) ⟨#[c, d]⟩ with ⟨_, hn⟩ | ⟨i, e, hi, hn⟩
  · exact absurd at_ (hn _)
  · have hia : i = a.length := by
      rcases Nat.lt_trichotomy i a.length with z | z | z
      · exfalso
        have h2 := hi.2
        rw [StrLaws.subAt_eq, hx] at h2
        have h3 := eq_of_beq h2
        have h4 := congrArg (fun l : List Nat => l[0]?) h3
        simp only [List.getElem?_take, List.getElem?_drop] at h4
        rw [if_pos (by show 0 < 2; decide), Nat.add_zero, List.getElem?_append_left (by omega)] at h4
        have h4 : a.cps.toList[i]? = some c := h4
        exact ha (List.mem_of_getElem? h4)
      · exact z
      · exact absurd at_ (hn _ z)
    subst hia
    rw [e]
    refine Prod.ext (str_extL ?_) (Prod.ext rfl (str_extL ?_))
    · rw [StrLaws.strSub_toList, hx, List.drop_zero, Nat.sub_zero, ← la, List.take_left]
    · rw [StrLaws.strSub_toList, hx, hl]
      show List.take (a.length + 2 + b.length - (a.length + 2)) (List.drop (a.length + 2) (a.cps.toList ++ c :: d :: b.cps.toList)) = b.cps.toList
      rw [List.drop_append, List.drop_of_length_le (by omega), la]
      have lb : b.cps.toList.length = b.length := by simp [Str.length]
      rw [show a.length + 2 - a.length = 2 by omega, show a.length + 2 + b.length - (a.length + 2) = b.length by omega]
      simp only [List.nil_append, List.drop_succ_cons, List.drop_zero]
      rw [← lb, List.take_length]
/-! ## how a house is written -/
def keysT (ks : List Str) : Str := if ks = [] then "-" else Txt.join " " (srt ks)
def roomT (r : Room') : Str := Txt.join "+" r.1 ++ ": " ++ keysT r.2
def houseT (h : House) : Str := Txt.join "\n" (keysT h.1 :: h.2.map roomT)
theorem sp_eq : (" " : Str) = ⟨#[32]⟩ := by decide +kernel
theorem pl_eq : ("+" : Str) = ⟨#[43]⟩ := by decide +kernel
theorem nl_eq : ("\n" : Str) = ⟨#[10]⟩ := by decide +kernel
theorem mi_eq : ("-" : Str) = ⟨#[45]⟩ := by decide +kernel
theorem co_eq : (": " : Str) = ⟨#[58, 32]⟩ := by decide +kernel
theorem mem_join {c : Nat} {sep : Str} : ∀ {xs : List Str}, c ∈ (Str.join sep xs).cps.toList → c ∈ sep.cps.toList ∨ ∃ x ∈ xs, c ∈ x.cps.toList
  | [], h => by simp [Str.join, Str.empty] at h
  | [x], h => .inr ⟨x, List.mem_cons_self .., h⟩
  | x :: y :: r, h => by
    rw [join_cons, str_app, str_app] at h
    rcases List.mem_append.mp h with h | h
    · rcases List.mem_append.mp h with h | h
      · exact .inr ⟨x, List.mem_cons_self .., h⟩
      · exact .inl h
    · rcases mem_join (xs := y :: r) h with h | ⟨z, hz, h⟩
      · exact .inl h
      · exact .inr ⟨z, List.mem_cons_of_mem _ hz, h⟩
theorem kind_not {c : Nat} {x : Str} (hc : c ∉ letters.cps.toList) (hx : isKind x = true) : c ∉ x.cps.toList := fun z => hc ((isKind_iff.mp hx).1 c z)
theorem not_let : (32 ∉ letters.cps.toList ∧ 43 ∉ letters.cps.toList ∧ 10 ∉ letters.cps.toList) ∧ 45 ∉ letters.cps.toList ∧ 58 ∉ letters.cps.toList := by decide +kernel
def Kds (ks : List Str) : Prop := ∀ k ∈ ks, isKind k = true
theorem Kds.srt {ks : List Str} (h : Kds ks) : Kds (srt ks) := fun k hk => h k ((srt_perm ks).mem_iff.mp hk)
theorem keysT_not {ks : List Str} (h : Kds ks) {c : Nat} (hc : c ∉ letters.cps.toList) (h1 : c ≠ 32) (h2 : c ≠ 45) : c ∉ (keysT ks).cps.toList := by
  unfold keysT
  split
  · rw [mi_eq]; simp [h2]
  · rw [txt_join]
    intro z
    rcases mem_join z with z | ⟨x, hx, z⟩
    · rw [sp_eq] at z; simp [h1] at z
    · exact kind_not hc (h.srt x hx) z
theorem keysT_dash {ks : List Str} (h : Kds ks) : decide (keysT ks = ("-" : Str)) = decide (ks = []) := by
  by_cases e : ks = []
  · subst e
    rw [decide_eq_true rfl]
    exact decide_eq_true (by unfold keysT; rw [if_pos rfl])
  · rw [decide_eq_false e]
    refine decide_eq_false fun z => ?_
    have : 45 ∈ (keysT ks).cps.toList := by rw [z, mi_eq]; simp
    unfold keysT at this
    rw [if_neg e, txt_join] at this
    rcases mem_join this with z | ⟨x, hx, z⟩
    · rw [sp_eq] at z; simp at z
    · exact kind_not not_let.2.1 (h.srt x hx) z
theorem srt_ne {ks : List Str} (h : ks ≠ []) : srt ks ≠ [] := fun z => h (by
  have := (srt_perm ks).length_eq
  rw [z] at this
  exact List.eq_nil_of_length_eq_zero this.symm)
theorem keysT_split {ks : List Str} (h : Kds ks) (h0 : ks ≠ []) : Txt.split (keysT ks) " " = srt ks := by
  unfold keysT
  rw [if_neg h0, sp_eq]
  exact split_join (srt_ne h0) fun x hx => kind_not not_let.1.1 (h.srt x hx)
theorem locks_split {ks : List Str} (h : Kds ks) (h0 : ks ≠ []) : Txt.split (Txt.join "+" ks) "+" = ks := by
  rw [pl_eq]
  exact split_join h0 fun x hx => kind_not not_let.1.2.1 (h x hx)
theorem room_part {r : Room'} (h : Kds r.1) : Txt.partition (roomT r) ": " = (Txt.join "+" r.1, (": " : Str), keysT r.2) := by
  unfold roomT
  rw [co_eq]
  refine part_at fun z => ?_
  rw [txt_join] at z
  rcases mem_join z with z | ⟨x, hx, z⟩
  · rw [pl_eq] at z; simp at z
  · exact kind_not not_let.2.2 (h x hx) z
theorem roomT_nl {r : Room'} (h1 : Kds r.1) (h2 : Kds r.2) : 10 ∉ (roomT r).cps.toList := by
  unfold roomT
  rw [str_app, str_app, List.mem_append, List.mem_append]
  rintro ((z | z) | z)
  · rw [txt_join] at z
    rcases mem_join z with z | ⟨x, hx, z⟩
    · rw [pl_eq] at z; simp at z
    · exact kind_not not_let.1.2.2 (h1 x hx) z
  · rw [co_eq] at z; simp at z
  · exact keysT_not h2 not_let.1.2.2 (by decide) (by decide) z
theorem house_split {h : House} (gd : GoodHouse h) : Txt.split (houseT h) "\n" = keysT h.1 :: h.2.map roomT := by
  unfold houseT
  rw [nl_eq]
  refine split_join (by simp) fun x hx => ?_
  rcases List.mem_cons.mp hx with rfl | hx
  · exact keysT_not gd.keys not_let.1.2.2 (by decide) (by decide)
  · obtain ⟨r, hr, rfl⟩ := List.mem_map.mp hx
    exact roomT_nl (gd.rooms r hr).1 (gd.rooms r hr).2.1
/-! part p_show51 -/
theorem is_house_use {h : House} {P : RV → List Cell → Prop} (gd : GoodHouse h) (q : P (.f (.bool true)) []) : tF 1 (pre1 SzD) (fn1 fun d => .bool (isHouseD d)) [.d (houseD h)] [] P :=
  ⟨rfl, [houseD h], rfl, rfl, ⟨_, rfl, szD_house gd⟩, by show P (.f (.bool (isHouseD (houseD h)))) []; rw [isHouseD_house gd]; exact q⟩
theorem sum_kinds : ∀ {ks : List Str}, Kds ks → (ks.map (·.length)).sum ≤ 4 * ks.length
  | [], _ => by simp
  | k :: ks, h => by
    have := (isKind_len (h k (List.mem_cons_self ..))).2
    have ih := sum_kinds (ks := ks) fun x hx => h x (List.mem_cons_of_mem _ hx)
    simp only [List.map_cons, List.sum_cons, List.length_cons]
    omega
theorem join_len {sep : Str} {ks : List Str} (h : Kds ks) (hs : sep.length = 1) : (Txt.join sep ks).length ≤ 5 * ks.length := by
  rw [txt_join]
  have h1 := StrLaws.join_length_le sep ks
  have h2 := sum_kinds h
  rw [hs] at h1
  omega
theorem keysT_len {ks : List Str} (h : Kds ks) : (keysT ks).length ≤ 5 * ks.length + 1 := by
  unfold keysT
  split
  · show 1 ≤ _; omega
  · have := join_len (sep := " ") h.srt rfl
    rw [(srt_perm ks).length_eq] at this
    omega
theorem show_keys_use {ks : List Str} {P : RV → List Cell → Prop} (hk : Kds ks) (hl : ks.length ≤ 100000) (q : P (.f (.str (keysT ks))) []) : TT_show_keys [.d (ksD ks)] [] P := by
  have szl : 2000000 < sizeLine := by decide
  have sz2 : sizeLine = 16777216 := by decide
  (first | simp_arith [TT_show_keys, tt_show_keys, ksD] | skip)
  cases ks with
  | nil =>
    (first | simp_arith [onSome_some] | skip)
    exact q
  | cons k ks =>
    have h1 := sum_kinds hk.srt
    have h2 := (srt_perm (k :: ks)).length_eq
    have e : keysT (k :: ks) = Txt.join " " (srt (k :: ks)) := by unfold keysT; rw [if_neg (by simp)]
    rw [e] at q
    have em : List.map PyData.str (k :: ks) = (k :: ks).map PyData.str := rfl
    (first | simp_arith [List.map_cons, List.isEmpty_cons] | skip)
    have hs1 : (Str.ofString " ").length = 1 := rfl
    rw [hs1]
    exact ⟨by omega, q⟩
structure Wh (h : House) : Prop where
  good : GoodHouse h
  b : h.1.length ≤ 300
  r : h.2.length ≤ 60
  k : ∀ r ∈ h.2, r.2.length ≤ 300
theorem roomT_len {h : House} (w : Wh h) {r : Room'} (hr : r ∈ h.2) : (roomT r).length ≤ 1600 := by
  obtain ⟨g1, g2, g3, g4, g5⟩ := w.good.rooms r hr
  have h1 := join_len (sep := "+") g1 rfl
  have h2 := keysT_len g2
  have h3 := w.k r hr
  unfold roomT
  rw [Str.length_append, Str.length_append]
  have : (Str.ofString ": ").length = 2 := rfl
  omega
theorem roomT_le {r : Room'} (g : goodRoom r) : (roomT r).length ≤ 5 * r.2.length + 30 := by
  obtain ⟨g1, g2, g3, g4, g5⟩ := g
  have h1 := join_len (sep := "+") g1 rfl
  have h2 := keysT_len g2
  unfold roomT
  rw [Str.length_append, Str.length_append]
  have : (Str.ofString ": ").length = 2 := rfl
  omega
theorem show_room_use {r : Room'} {P : RV → List Cell → Prop} (g : goodRoom r) (hl : r.2.length ≤ 100000) (q : P (.f (.str (roomT r))) []) : TT_show_room [.d (roomD r)] [] P := by
  have szl : 2000000 < sizeLine := by decide
  have hl2 := roomT_le g
  obtain ⟨g1, g2, g3, g4, g5⟩ := g
  have h1 := sum_kinds g1
  have hs1 : (Str.ofString "+").length = 1 := rfl
  have hs2 : (Str.ofString ": ").length = 2 := rfl
  have hj := join_len (sep := "+") g1 rfl
  have hk := keysT_len g2
  (first | simp_arith [TT_show_room, tt_show_room] | skip)
  rw [hs1]
  refine ⟨by omega, by rw [hs2]; omega, ?_⟩
  refine show_keys_use g2 (by omega) ?_
  (first | simp_arith [onSome_some] | skip)
  refine ⟨?_, q⟩
  rw [Str.length_append, hs2]
  omega
/-- a house's text, where it is no more than a million signs -/
theorem show_house_x {E : ExT} {h : House} {P : RV → List Cell → Prop} {PE : PyData → List Cell → Prop} (gd : GoodHouse h) (hs : (keysT h.1).length + ((h.2.map roomT).map (·.length)).sum + h.2.length ≤ 1000000) (q : P (.f (.str (houseT h))) []) : TT_show_house E [.d (houseD h)] [] P PE := by
  have szl : 2000000 < sizeLine := by decide
  have hf := gd.few
  have hm := gd.many
  (first | simp_arith [TT_show_house, tt_show_house] | skip)
  refine is_house_use gd ?_
  (first | simp_arith [onSome_some] | skip)
  refine show_keys_use gd.keys (by omega) ?_
  (first | simp_arith [onSome_some] | skip)
  repeat (with_reducible refine And.intro (by first | omega | decide | exact Or.inl ⟨by omega, by omega⟩ | exact Or.inr ⟨by omega, by omega⟩ | (constructor <;> omega) | fail) ?_)
  refine lcW_map trivial roomD (fun _ => true) (fun r => PyData.str (roomT r)) (fun r hr R1 R2 h1 h2 => ?_) ?_
  · (first | simp_arith [onSome_some] | skip)
    refine show_room_use (gd.rooms r hr) (gd.each r hr) ?_
    (first | simp_arith [onSome_some] | skip)
    exact h1 rfl
  have ef : (h.2.filter fun _ => true).map (fun r => PyData.str (roomT r)) = (h.2.map roomT).map PyData.str := by rw [List.filter_eq_self.mpr fun _ _ => rfl, List.map_map]; rfl
  have ec : PyData.str (keysT h.1) :: (h.2.map roomT).map PyData.str = (keysT h.1 :: h.2.map roomT).map PyData.str := rfl
  have hs1 : (Str.ofString "\n").length = 1 := rfl
  (first | simp_arith [List.nil_append, ef, List.length_map] | skip)
  rw [ec, strs?_map]
  (first | simp_arith [onSome_some] | skip)
  rw [hs1, List.sum_cons]
  exact ⟨by omega, by omega, q⟩
theorem is_house_any {d : PyData} {P : RV → List Cell → Prop} (hz : SzD d) (q : P (.f (.bool (isHouseD d))) []) : tF 1 (pre1 SzD) (fn1 fun d => .bool (isHouseD d)) [.d d] [] P := ⟨rfl, [d], rfl, rfl, ⟨_, rfl, hz⟩, q⟩
theorem show_house_no {E : ExT} {d : PyData} {P : RV → List Cell → Prop} {PE : PyData → List Cell → Prop} (hz : SzD d) (hn : isHouseD d = false) (q : PE (errD (E.c .house) (.list [])) []) : TT_show_house E [.d d] [] P PE := by
  (first | simp_arith [TT_show_house, tt_show_house] | skip)
  refine is_house_any hz ?_
  (first | simp_arith [hn, excP] | skip)
  exact q
/-! part p_wd51 -/
/-! texts of some length -/
theorem join_part {sep : Str} : ∀ {W : List Str} {w : Str}, w ∈ W → w.length ≤ (Str.join sep W).length ∧ ∀ c ∈ w.cps.toList, c ∈ (Str.join sep W).cps.toList
  | [], _, h => by cases h
  | [x], w, h => by
    rw [List.mem_singleton] at h; subst h
    exact ⟨Nat.le_refl _, fun c hc => hc⟩
  | x :: y :: r, w, h => by
    rw [join_cons]
    rcases List.mem_cons.mp h with rfl | h
    · exact ⟨by rw [Str.length_append, Str.length_append]; omega, fun c hc => by rw [str_app, str_app]; simp [hc]⟩
    · obtain ⟨h1, h2⟩ := join_part (sep := sep) h
      exact ⟨by rw [Str.length_append, Str.length_append]; omega, fun c hc => by rw [str_app, str_app]; simp [h2 c hc]⟩
theorem join_many {sep : Str} (hs : 0 < sep.length) : ∀ {W : List Str}, W.length ≤ (Str.join sep W).length + 1
  | [] => by simp
  | [x] => by simp
  | x :: y :: r => by
    have := join_many hs (W := y :: r)
    rw [join_cons, Str.length_append, Str.length_append, List.length_cons]
    omega
theorem split_part {x sep w : Str} (h : w ∈ Txt.split x sep) : w.length ≤ x.length ∧ ∀ c ∈ w.cps.toList, c ∈ x.cps.toList := by
  have := join_part (sep := sep) h
  rwa [StrLaws.join_split] at this
theorem split_many {x sep : Str} (hs : 0 < sep.length) : (Txt.split x sep).length ≤ x.length + 1 := by
  have := join_many hs (W := Txt.split x sep)
  rwa [StrLaws.join_split] at this
/-- texts of proper signs -/
def TxtOk (x : Str) : Prop := ∀ c ∈ x.cps.toList, c < 1114112
theorem TxtOk.str {x : Str} (h : TxtOk x) : PyData.strOk x = true := by
  unfold PyData.strOk
  rw [Array.all_eq_true']
  intro c hc
  exact decide_eq_true (h c (by simpa using hc))
theorem TxtOk.part {x sep w : Str} (h : TxtOk x) (hw : w ∈ Txt.split x sep) : TxtOk w := fun c hc => h c ((split_part hw).2 c hc)
theorem split_cons (x sep : Str) : ∃ w r, Txt.split x sep = w :: r := by
  have := PyProof.Rows.split_pos x sep
  cases h : Txt.split x sep with
  | nil => rw [h] at this; simp at this
  | cons w r => exact ⟨w, r, rfl⟩
def Wd (n : Nat) (z : Str) : Prop := z.length ≤ n ∧ TxtOk z
def wdB (n : Nat) (z : Str) : Bool := decide (z.length ≤ n) && z.cps.toList.all fun c => decide (c < 1114112)
theorem wd_of {n : Nat} {z : Str} (h : wdB n z = true) : Wd n z := by
  unfold wdB at h
  rw [Bool.and_eq_true] at h
  exact ⟨of_decide_eq_true h.1, fun c hc => of_decide_eq_true (List.all_eq_true.mp h.2 c hc)⟩
theorem Wd.le {n m : Nat} {z : Str} (h : Wd n z) (hm : n ≤ m) : Wd m z := ⟨Nat.le_trans h.1 hm, h.2⟩
theorem Wd.app {n m : Nat} {a b : Str} (ha : Wd n a) (hb : Wd m b) : Wd (n + m) (a ++ b) := ⟨by rw [Str.length_append]; have := ha.1; have := hb.1; omega, fun c hc => by
  rw [str_app] at hc
  rcases List.mem_append.mp hc with hc | hc
  · exact ha.2 c hc
  · exact hb.2 c hc⟩
theorem pickW {n : Nat} {L : List Str} (hL : L.all (wdB n) = true) {i : Int} (h0 : 0 ≤ i) (h1 : i < (L.length : Int)) : ∃ z, Wd n z ∧ L2.atI (L.map PyData.str) i = some (.str z) := by
  obtain ⟨j, rfl⟩ : ∃ j : Nat, i = (j : Int) := ⟨i.toNat, by omega⟩
  obtain ⟨z, hz⟩ : ∃ z, L[j]? = some z := ⟨_, List.getElem?_eq_getElem (by omega)⟩
  refine ⟨z, wd_of (List.all_eq_true.mp hL z (List.mem_of_getElem? hz)), ?_⟩
  rw [atI_natE, List.getElem?_map, hz]
  rfl
theorem cut_wd {n : Nat} {z : Str} {lo hi : Option Int} (h : Wd n z) : Wd n (cutS z lo hi) := by
  have lz : z.cps.toList.length = z.length := by simp [Str.length]
  unfold cutS
  refine ⟨?_, fun c hc => h.2 c ?_⟩
  · show (Array.size _) ≤ n
    rw [List.size_toArray, List.length_take, List.length_drop]
    have := h.1
    omega
  · exact List.mem_of_mem_drop (List.mem_of_mem_take hc)
theorem repl1_wd {n m : Nat} {x y z : Str} (hx : Wd n x) (hz : Wd m z) : Wd (n + m) (repl1 x y z) := by
  refine ⟨Nat.le_trans (repl1_len x y z) (by have := hx.1; have := hz.1; omega), fun c hc => ?_⟩
  unfold repl1 at hc
  split at hc
  · exact hx.2 c hc
  · rw [StrLaws.glued_eq_join] at hc
    rcases mem_join hc with h | ⟨p, hp, h⟩
    · exact hz.2 c h
    · have e := StrLaws.glued_between_self x y 1
      rw [StrLaws.glued_eq_join] at e
      have := (join_part (sep := y) hp).2 c h
      rw [e] at this
      exact hx.2 c this
/-! part p_g52 -/
theorem numbers_use {c : Int} {many : Nat} {P : RV → List Cell → Prop} (h1 : many ≤ 1000) (q : ∀ ns : List Int, P (.n (.lst (ns.map .int))) []) : TT_law_numbers [.d (.int c), .d (.int (many : Int))] [] P := by
  have szl : 10000 < sizeLine := by decide
  have pw : ∀ (s : AS) (Q : VQ), powA (.d (.int 10)) (.d (.int 18)) s Q = ((0 ≤ (18 : Int) ∧ (18 : Int) ≤ 1000000 ∧ (10 : Int).natAbs < 2 ^ 64) ∧ Q (.d (.int (10 ^ 18))) s) := fun s Q => by
    simp only [powA, intOp, AVal.int?_int, onSome_some, CPow]
    rfl
  (first | simp_arith [TT_law_numbers, tt_law_numbers] | skip)
  repeat (with_reducible refine And.intro (by first | omega | decide | exact Or.inl ⟨by omega, by omega⟩ | exact Or.inr ⟨by omega, by omega⟩ | (constructor <;> omega) | fail) ?_)
  rw [intsD_natE]
  refine forW_map (fun k : Nat => PyData.int (k : Int)) (List.range many) (fun i s => ∃ (ns : List Int) (rest stir : Int), ns.length = i ∧ (0 ≤ stir ∧ stir < 2147483647) ∧ s = ⟨[some (.d (.int c)), some (.d (.int (many : Int))), some (.r 0), some (.d (.int rest)), some (.d (.int stir)), none, none], [.lst (ns.map .int)]⟩) ⟨[], c, c % 2147483647, rfl, by omega, rfl⟩ ?_ ?_
  · rintro i x s' N hx ⟨ns, rest, stir, hl, hst, rfl⟩ hN
    have hi : i < many := by have := (List.getElem?_eq_some_iff.mp hx).1; simpa using this
    have hx2 : x < many := by have := List.mem_of_getElem? hx; simpa using this
    have fin : ∀ (v : Int) (rest' stir' : Int), (0 ≤ stir' ∧ stir' < 2147483647) → ∀ sl, SubS 1 sl [some (.d (.int c)), some (.d (.int (many : Int))), some (.r 0), some (.d (.int rest')), some (.d (.int stir')), none, none] → N ⟨sl, [.lst (ns.map PyData.int ++ [.int v])]⟩ := by
      intro v rest' stir' hs' sl hs
      refine hN _ _ (wk_of (cs' := [.lst ((ns ++ [v]).map PyData.int)]) [] hs (by simp) rfl (by simp)) ⟨ns ++ [v], rest', stir', by simp [hl], hs', rfl⟩
    (first | simp_arith [pw, CDiv, CMul] | skip)
    have m1 : 0 ≤ ((stir + 7 * (x : Int) + 3) * 48271) % 2147483647 ∧ ((stir + 7 * (x : Int) + 3) * 48271) % 2147483647 < 2147483647 := ⟨Int.emod_nonneg _ (by decide), Int.emod_lt_of_pos _ (by decide)⟩
    refine ⟨by decide, ?_⟩
    split
    · split
      · refine ⟨by decide, by omega, by decide, ?_⟩
        exact fin _ (rest / 64) stir hst _ (by simp [SubS, ltO, AVal.lt])
      · repeat (with_reducible refine And.intro (by first | omega | decide | exact Or.inl ⟨by omega, by omega⟩ | exact Or.inr ⟨by omega, by omega⟩ | (constructor <;> omega) | fail) ?_)
        refine fin _ rest _ m1 _ ?_
        simp [SubS, ltO, AVal.lt]
    · repeat (with_reducible refine And.intro (by first | omega | decide | exact Or.inl ⟨by omega, by omega⟩ | exact Or.inr ⟨by omega, by omega⟩ | (constructor <;> omega) | fail) ?_)
      refine fin _ rest _ m1 _ ?_
      simp [SubS, ltO, AVal.lt]
  · rintro s' ⟨ns, rest, stir, hl, hst, rfl⟩
    (first | simp_arith [onSome_some] | skip)
    exact q ns
theorem deck_use {c : Int} {many : Nat} {P : RV → List Cell → Prop} (h1 : many ≤ 1000) (q : ∀ ns : List Int, P (.n (.lst (ns.map .int))) []) : TT_law_deck [.d (.int c), .d (.int (many : Int))] [] P := by
  (first | simp_arith [TT_law_deck, tt_law_deck] | skip)
  refine numbers_use h1 fun ns => ?_
  (first | simp_arith [onSome_some] | skip)
  rw [← List.map_reverse]
  exact q _
theorem modN (v m : Int) (hm : 0 < m) : ∃ r : Nat, v % m = (r : Int) ∧ (r : Int) < m := by
  have h0 := Int.emod_nonneg v (by omega : m ≠ 0)
  exact ⟨(v % m).toNat, by omega, by have := Int.emod_lt_of_pos v hm; omega⟩
theorem take_use {ns : List Int} {many : Int} {P : RV → List Cell → Prop} (h0 : 0 < many) (q : ∀ (r : Nat) (ns' : List Int), (r : Int) < many → P (.f (.int (r : Int))) [.lst (ns'.map .int)]) : TT_law_take [.r 0, .d (.int many)] [.lst (ns.map .int)] P := by
  (first | simp_arith [TT_law_take, tt_law_take] | skip)
  cases hns : (ns.map PyData.int).isEmpty with
  | true =>
    (first | simp_arith [onSome_some] | skip)
    exact q 0 ns (by omega)
  | false =>
    (first | simp_arith [onSome_some] | skip)
    have hne : ns ≠ [] := fun z => by rw [z] at hns; cases hns
    obtain ⟨v, hv⟩ : ∃ v, ns.getLast? = some v := ⟨_, List.getLast?_eq_some_getLast hne⟩
    rw [List.getLast?_map, hv, ← List.map_dropLast]
    (first | simp_arith [Option.map_some] | skip)
    obtain ⟨r, er, hr⟩ := modN v many h0
    rw [er]
    exact ⟨h0, q r _ hr⟩
theorem let_at26 {i : Int} (h0 : 0 ≤ i) (h1 : i < 26) : ∃ c, L2.atI letters.cps.toList i = some c ∧ c ∈ letters.cps.toList := by
  have ll : letters.cps.toList.length = 26 := by decide +kernel
  obtain ⟨n, rfl⟩ : ∃ n : Nat, i = (n : Int) := ⟨i.toNat, by omega⟩
  have g2 : n < letters.cps.toList.length := by omega
  exact ⟨letters.cps.toList[n], by rw [atI_natE]; exact List.getElem?_eq_getElem g2, List.getElem_mem g2⟩
theorem kindOf_use {ns : List Int} {few : Nat} {P : RV → List Cell → Prop} (h0 : 0 < few) (h1 : few ≤ 8) (q : ∀ (x : Str) (ns' : List Int), isKind x = true → P (.f (.str x)) [.lst (ns'.map .int)]) : TT_law_kind [.r 0, .d (.int (few : Int))] [.lst (ns.map .int)] P := by
  have szl : 10000 < sizeLine := by decide
  have pick : ∀ (L : List Str) (r : Nat), (∀ x ∈ L, isKind x = true) → r < L.length → ∃ x, L2.atI (L.map PyData.str) (r : Int) = some (.str x) ∧ L2.atI (L.map fun x => AVal.d (.str x)) (r : Int) = some (.d (.str x)) ∧ isKind x = true := fun L r hL hr => by
    refine ⟨L[r], ?_, ?_, hL _ (List.getElem_mem hr)⟩
    · rw [atI_natE, List.getElem?_map, List.getElem?_eq_getElem hr]
      rfl
    · rw [atI_natE, List.getElem?_map, List.getElem?_eq_getElem hr]
      rfl
  (first | simp_all_arith! [TT_law_kind, tt_law_kind] | skip)
  refine take_use (by decide) fun way ns1 hw => ?_
  have e5 : decide ((way : Int) = 5) = decide (way = 5) := decide_eq_decide.mpr (by omega)
  have e6 : decide ((way : Int) = 6) = decide (way = 6) := decide_eq_decide.mpr (by omega)
  have e7 : decide ((way : Int) = 7) = decide (way = 7) := decide_eq_decide.mpr (by omega)
  by_cases h5 : way = 5
  · have d5 : decide ((way : Int) = 5) = true := by rw [e5]; exact decide_eq_true h5
    (first | simp_arith [d5] | skip)
    repeat (with_reducible refine And.intro (by first | omega | decide | exact Or.inl ⟨by omega, by omega⟩ | exact Or.inr ⟨by omega, by omega⟩ | (constructor <;> omega) | fail) ?_)
    refine take_use (many := 18) (by decide) fun r ns2 hr => ?_
    obtain ⟨x, hx, hx2, hk⟩ := pick [("keys" : Str), "room", "open", "back", "new", "hand", "next", "gone", "all", "buy", "nth", "most", "best", "show", "none", "yes", "few", "shut"] r (by decide +kernel) (by show r < 18; omega)
    simp only [List.map_cons, List.map_nil] at hx hx2
    (first | simp_arith [hx, hx2] | skip)
    exact q x ns2 hk
  · by_cases h6 : way = 6
    · have d5 : decide ((way : Int) = 5) = false := by rw [e5]; exact decide_eq_false h5
      have d6 : decide ((way : Int) = 6) = true := by rw [e6]; exact decide_eq_true h6
      (first | simp_arith [d5, d6] | skip)
      repeat (with_reducible refine And.intro (by first | omega | decide | exact Or.inl ⟨by omega, by omega⟩ | exact Or.inr ⟨by omega, by omega⟩ | (constructor <;> omega) | fail) ?_)
      refine take_use (many := 8) (by decide) fun r ns2 hr => ?_
      obtain ⟨x, hx, hx2, hk⟩ := pick [("abcd" : Str), "abce", "abcz", "zz", "zy", "zbcd", "keya", "keyb"] r (by decide +kernel) (by show r < 8; omega)
      simp only [List.map_cons, List.map_nil] at hx hx2
      (first | simp_arith [hx, hx2] | skip)
      exact q x ns2 hk
    · by_cases h7 : way = 7
      · have d5 : decide ((way : Int) = 5) = false := by rw [e5]; exact decide_eq_false h5
        have d6 : decide ((way : Int) = 6) = false := by rw [e6]; exact decide_eq_false h6
        have d7 : decide ((way : Int) = 7) = true := by rw [e7]; exact decide_eq_true h7
        (first | simp_arith [d5, d6, d7] | skip)
        refine take_use (many := 4) (by decide) fun r ns2 hr => ?_
        (first | simp_arith [onSome_some] | skip)
        repeat (with_reducible refine And.intro (by first | omega | decide | exact Or.inl ⟨by omega, by omega⟩ | exact Or.inr ⟨by omega, by omega⟩ | (constructor <;> omega) | fail) ?_)
        rw [show (1 : Int) + (r : Int) = ((1 + r : Nat) : Int) by omega, intsD_natE]
        refine forW_map (fun k : Nat => PyData.int (k : Int)) (List.range (1 + r)) (fun i s => ∃ (w : Str) (ns' : List Int), LS w ∧ w.length = i ∧ s = ⟨[some (.r 0), some (.d (.int (few : Int))), some (.d (.int (way : Int))), none, some (.d (.str w)), none], [.lst (ns'.map .int)]⟩) ⟨"", ns2, (fun c hc => by cases hc), rfl, rfl⟩ ?_ ?_
        · rintro i x s' N hx ⟨w, ns', hw', hwl, rfl⟩ hN
          have hi : i < 1 + r := by have := (List.getElem?_eq_some_iff.mp hx).1; simpa using this
          (first | simp_arith [onSome_some] | skip)
          refine take_use (many := 26) (by decide) fun t ns3 ht => ?_
          obtain ⟨c, hc⟩ := let_at26 (i := (t : Int)) (by omega) (by omega)
          have hlt : Str.ofString "abcdefghijklmnopqrstuvwxyz" = letters := rfl
          (first | simp_arith [hlt, hc.1] | skip)
          refine ⟨by decide +kernel, by rw [hwl]; show i + 1 ≤ sizeLine; omega, hN _ ⟨[some (.r 0), some (.d (.int (few : Int))), some (.d (.int (way : Int))), none, some (.d (.str (w ++ ⟨#[c]⟩))), none], [.lst (ns3.map .int)]⟩ (wk_of [] (by simp [SubS, ltO, AVal.lt]) rfl rfl (by simp)) ⟨_, ns3, hw'.append (LS.one hc.2), ?_, rfl⟩⟩
          rw [Str.length_append, hwl]
          rfl
        · rintro s' ⟨w, ns', hw', hwl, rfl⟩
          rw [List.length_range] at hwl
          (first | simp_arith [onSome_some] | skip)
          exact q w ns' (isKind_iff.mpr ⟨hw', by omega, by omega⟩)
      · have d5 : decide ((way : Int) = 5) = false := by rw [e5]; exact decide_eq_false h5
        have d6 : decide ((way : Int) = 6) = false := by rw [e6]; exact decide_eq_false h6
        have d7 : decide ((way : Int) = 7) = false := by rw [e7]; exact decide_eq_false h7
        (first | simp_arith [d5, d6, d7] | skip)
        repeat (with_reducible refine And.intro (by first | omega | decide | exact Or.inl ⟨by omega, by omega⟩ | exact Or.inr ⟨by omega, by omega⟩ | (constructor <;> omega) | fail) ?_)
        refine take_use (by omega) fun r ns2 hr => ?_
        obtain ⟨x, hx, hx2, hk⟩ := pick [("a" : Str), "b", "ab", "c", "zz", "abcd", "ba", "k"] r (by decide +kernel) (by show r < 8; omega)
        simp only [List.map_cons, List.map_nil] at hx hx2
        (first | simp_arith [hx, hx2] | skip)
        exact q x ns2 hk
/-! part p_lcinv -/
theorem lcW_inv {α : Type} {g : TGA} {tt : TTA} {te : TEA} {vs : List Nat} {ok : List Cell → Prop} {sl : List (Option AVal)} {Q : List PyData → List Cell → Prop} (D : α → PyData) (xs : List α) (Iv : Nat → List PyData → List Cell → Prop) {acc : List PyData} {cs : List Cell} (h0 : Iv 0 acc cs) (hok : ∀ i acc cs, Iv i acc cs → ok cs)
    (hs : ∀ i x acc cs R1 R2, xs[i]? = some x → Iv i acc cs → (∀ d cs', Iv (i + 1) (acc ++ [d]) cs' → R1 d cs') → (∀ cs', Iv (i + 1) acc cs' → R2 cs') → lcStep g tt te vs sl cs (D x) R1 R2) (hd : ∀ acc cs, Iv xs.length acc cs → Q acc cs) : lcW g tt te vs ok sl (xs.map D) acc cs Q := by
  have key : ∀ (n i : Nat) (acc : List PyData) (cs : List Cell), xs.length = i + n → Iv i acc cs → lcW g tt te vs ok sl ((xs.drop i).map D) acc cs Q := by
    intro n
    induction n with
    | zero =>
      intro i acc cs hl hi
      rw [List.drop_eq_nil_of_le (by omega)]
      exact ⟨hok _ _ _ hi, hd _ _ (by rw [hl]; exact hi)⟩
    | succ n ih =>
      intro i acc cs hl hi
      have e : xs[i]? = some (xs[i]'(by omega)) := List.getElem?_eq_getElem (by omega)
      rw [drop_get e, List.map_cons]
      exact ⟨hok _ _ _ hi, hs i _ acc cs (fun d cs' => lcW g tt te vs ok sl ((xs.drop (i + 1)).map D) (acc ++ [d]) cs' Q) (fun cs' => lcW g tt te vs ok sl ((xs.drop (i + 1)).map D) acc cs' Q) e hi (fun d cs' h => ih (i + 1) _ _ (by omega) h) (fun cs' h => ih (i + 1) _ _ (by omega) h)⟩
  exact key xs.length 0 acc cs (by omega) h0
/-! part p_h53 -/
theorem keysOf_use {ns : List Int} {few : Nat} {most : Nat} {P : RV → List Cell → Prop} (h0 : 0 < few) (h1 : few ≤ 8) (hm0 : 0 < most) (hm : most ≤ 100) (q : ∀ (ks : List Str) (ns' : List Int), Kds ks → ks.length < most → P (.n (.lst (ks.map .str))) [.lst (ns'.map .int)]) : TT_law_keys [.r 0, .d (.int (few : Int)), .d (.int (most : Int))] [.lst (ns.map .int)] P := by
  (first | simp_arith [TT_law_keys, tt_law_keys] | skip)
  refine take_use (by omega) fun r ns1 hr => ?_
  (first | simp_arith [onSome_some] | skip)
  repeat (with_reducible refine And.intro (by first | omega | decide | exact Or.inl ⟨by omega, by omega⟩ | exact Or.inr ⟨by omega, by omega⟩ | (constructor <;> omega) | fail) ?_)
  rw [intsD_natE]
  refine lcW_inv (fun k : Nat => PyData.int (k : Int)) (List.range r) (fun i acc cs => ∃ (ks : List Str) (ns' : List Int), Kds ks ∧ ks.length = i ∧ acc = ks.map .str ∧ cs = [.lst (ns'.map .int)]) ⟨[], ns1, (fun _ h => nomatch h), rfl, rfl, rfl⟩ (fun _ _ _ _ => trivial) ?_ ?_
  · rintro i x acc cs R1 R2 hx ⟨ks, ns', hk, hl, rfl, rfl⟩ hR1 hR2
    (first | simp_arith [onSome_some] | skip)
    refine kindOf_use h0 h1 fun y ns'' hy => ?_
    (first | simp_arith [onSome_some] | skip)
    exact hR1 _ _ ⟨ks ++ [y], ns'', fun k hk' => by
      rcases List.mem_append.mp hk' with z | z
      · exact hk k z
      · rw [List.mem_singleton] at z; subst z; exact hy, by simp [hl], by simp, rfl⟩
  · rintro acc cs ⟨ks, ns', hk, hl, rfl, rfl⟩
    rw [List.length_range] at hl
    (first | simp_arith [onSome_some] | skip)
    exact q ks ns' hk (by omega)
structure Rms (rs : List Room') : Prop where
  ok : ∀ r ∈ rs, goodRoom r
  k : ∀ r ∈ rs, r.2.length ≤ 8
theorem Rms.snoc {rs : List Room'} {r : Room'} (h : Rms rs) (h1 : goodRoom r) (h2 : r.2.length ≤ 8) : Rms (rs ++ [r]) := by
  refine ⟨fun x hx => ?_, fun x hx => ?_⟩
  · rcases List.mem_append.mp hx with hx | hx
    · exact h.ok x hx
    · rw [List.mem_singleton] at hx; subst hx; exact h1
  · rcases List.mem_append.mp hx with hx | hx
    · exact h.k x hx
    · rw [List.mem_singleton] at hx; subst hx; exact h2
theorem Rms.wh {ks : List Str} {rs : List Room'} (h : Rms rs) (hk : Kds ks) (h1 : ks.length ≤ 300) (h2 : rs.length ≤ 60) : Wh (ks, rs) :=
  ⟨⟨hk, h.ok, by show ks.length ≤ _; omega, by show rs.length ≤ _; omega, fun r hr => by have := h.k r hr; omega⟩, h1, h2, fun r hr => by have := h.k r hr; omega⟩
theorem house_use {ns : List Int} {most lk : Nat} {P : RV → List Cell → Prop} (hmo : most ≤ 60) (hk0 : 0 < lk) (hk4 : lk ≤ 4) (q : ∀ (h : House) (ns' : List Int), Kds h.1 → h.1.length ≤ 13 → Rms h.2 → h.2.length ≤ most → P (.f (houseD h)) [.lst (ns'.map .int)]) : TT_law_house [.r 0, .d (.int (most : Int)), .d (.int (lk : Int))] [.lst (ns.map .int)] P := by
  have szl : 10000 < sizeLine := by decide
  (first | simp_all_arith! [TT_law_house, tt_law_house] | skip)
  repeat (with_reducible refine And.intro (by first | omega | decide | exact Or.inl ⟨by omega, by omega⟩ | exact Or.inr ⟨by omega, by omega⟩ | (constructor <;> omega) | fail) ?_)
  refine take_use (many := 3) (by decide) fun r ns1 hr => ?_
  obtain ⟨few, hf0, hf8, ef⟩ : ∃ few : Nat, 0 < few ∧ few ≤ 8 ∧ L2.atI [PyData.int 2, PyData.int 3, PyData.int 8] (r : Int) = some (.int (few : Int)) := by
    have : r = 0 ∨ r = 1 ∨ r = 2 := by omega
    rcases this with rfl | rfl | rfl
    · exact ⟨2, by decide, by decide, rfl⟩
    · exact ⟨3, by decide, by decide, rfl⟩
    · exact ⟨8, by decide, by decide, rfl⟩
  (first | simp_all_arith! [ef] | skip)
  refine take_use (many := (most : Int) + 1) (by omega) fun t ns2 ht => ?_
  (first | simp_all_arith! [onSome_some] | skip)
  repeat (with_reducible refine And.intro (by first | omega | decide | exact Or.inl ⟨by omega, by omega⟩ | exact Or.inr ⟨by omega, by omega⟩ | (constructor <;> omega) | fail) ?_)
  rw [intsD_natE]
  refine forW_map (fun k : Nat => PyData.int (k : Int)) (List.range t) (fun i s => ∃ (rs : List Room') (ns' : List Int), Rms rs ∧ rs.length = i ∧ s = ⟨[some (.r 0), some (.d (.int (most : Int))), some (.d (.int (lk : Int))), some (.d (.int (few : Int))), some (.r 1), none, none, none], [.lst (ns'.map .int), .lst (rs.map roomD)]⟩) ⟨[], ns2, ⟨(fun _ h => nomatch h), (fun _ h => nomatch h)⟩, rfl, rfl⟩ ?_ ?_
  · rintro i x s' N hx ⟨rs, ns', hrs, hl, rfl⟩ hN
    have hi : i < t := by have := (List.getElem?_eq_some_iff.mp hx).1; simpa using this
    (first | simp_arith [onSome_some] | skip)
    refine take_use (by omega) fun u ns3 hu => ?_
    (first | simp_arith [onSome_some] | skip)
    repeat (with_reducible refine And.intro (by first | omega | decide | exact Or.inl ⟨by omega, by omega⟩ | exact Or.inr ⟨by omega, by omega⟩ | (constructor <;> omega) | fail) ?_)
    rw [show (1 : Int) + (u : Int) = ((1 + u : Nat) : Int) by omega, intsD_natE]
    refine lcW_inv (fun k : Nat => PyData.int (k : Int)) (List.range (1 + u)) (fun i acc cs => ∃ (ks : List Str) (ns' : List Int), Kds ks ∧ ks.length = i ∧ acc = ks.map .str ∧ cs = [.lst (ns'.map .int), .lst (rs.map roomD)]) ⟨[], ns3, (fun _ h => nomatch h), rfl, rfl, rfl⟩ (fun _ _ _ _ => trivial) ?_ ?_
    · rintro i x acc cs R1 R2 hx ⟨ks, ns', hk, hl, rfl, rfl⟩ hR1 hR2
      (first | simp_arith [onSome_some] | skip)
      refine kindOf_use hf0 hf8 fun y ns'' hy => ?_
      (first | simp_arith [onSome_some] | skip)
      exact hR1 _ _ ⟨ks ++ [y], ns'', fun k hk' => by
        rcases List.mem_append.mp hk' with z | z
        · exact hk k z
        · rw [List.mem_singleton] at z; subst z; exact hy, by simp [hl], by simp, rfl⟩
    · rintro acc cs ⟨ks, ns4, hk, hkl, rfl, rfl⟩
      rw [List.length_range] at hkl
      obtain ⟨nin, en9, n90, n99⟩ : ∃ nin : Nat, L2.atI [PyData.int 9, PyData.int 3] (if decide ((12 : Int) < (most : Int)) = true then 1 else 0) = some (.int (nin : Int)) ∧ 0 < nin ∧ nin ≤ 9 := by
        by_cases e : (12 : Int) < (most : Int)
        · rw [if_pos (decide_eq_true e)]
          exact ⟨3, rfl, by decide, by decide⟩
        · rw [if_neg (by simpa using e)]
          exact ⟨9, rfl, by decide, by decide⟩
      (first | simp_arith [srtD_strs, en9] | skip)
      refine ⟨by omega, by omega, ?_⟩
      refine take_use (many := 5) (by decide) fun v ns5 hv => ?_
      obtain ⟨mo, hm0, hm9, em⟩ : ∃ mo : Nat, 0 < mo ∧ mo ≤ 9 ∧ L2.atI [PyData.int 2, PyData.int 3, PyData.int 4, PyData.int 2, PyData.int (nin : Int)] (v : Int) = some (.int (mo : Int)) := by
        have : v = 0 ∨ v = 1 ∨ v = 2 ∨ v = 3 ∨ v = 4 := by omega
        rcases this with rfl | rfl | rfl | rfl | rfl
        · exact ⟨2, by decide, by decide, rfl⟩
        · exact ⟨3, by decide, by decide, rfl⟩
        · exact ⟨4, by decide, by decide, rfl⟩
        · exact ⟨2, by decide, by decide, rfl⟩
        · exact ⟨nin, n90, n99, rfl⟩
      (first | simp_all_arith [em] | skip)
      refine keysOf_use hf0 hf8 hm0 (by omega) fun ys ns6 hy hyl => ?_
      (first | simp_arith [onSome_some] | skip)
      repeat (with_reducible refine And.intro (by first | omega | decide | exact Or.inl ⟨by omega, by omega⟩ | exact Or.inr ⟨by omega, by omega⟩ | (constructor <;> omega) | fail) ?_)
      refine hN _ ⟨[some (.r 0), some (.d (.int (most : Int))), some (.d (.int (lk : Int))), some (.d (.int (few : Int))), some (.r 1), none, none, none], [.lst (ns6.map .int), .lst ((rs ++ [((srt ks, ys) : Room')]).map roomD)]⟩ (wk_of [] (by simp [SubS, ltO, AVal.lt]) (by simp [roomD, ksD]) rfl (by simp)) ⟨rs ++ [(srt ks, ys)], ns6, hrs.snoc ⟨hk.srt, hy, ?_, ?_, srt_srt _⟩ ?_, by simp [hl], rfl⟩
      · show 1 ≤ (srt ks).length; rw [(srt_perm _).length_eq]; omega
      · show (srt ks).length ≤ 4; rw [(srt_perm _).length_eq]; omega
      · show ys.length ≤ 8; omega
  · rintro s' ⟨rs, ns', hrs, hl, rfl⟩
    rw [List.length_range] at hl
    (first | simp_arith [onSome_some] | skip)
    repeat (with_reducible refine And.intro (by first | omega | decide | exact Or.inl ⟨by omega, by omega⟩ | exact Or.inr ⟨by omega, by omega⟩ | (constructor <;> omega) | fail) ?_)
    refine take_use (many := 4) (by decide) fun v ns5 hv => ?_
    obtain ⟨mo, hm0, hm9, em⟩ : ∃ mo : Nat, 0 < mo ∧ mo ≤ 13 ∧ L2.atI [PyData.int 5, PyData.int 5, PyData.int 5, PyData.int 13] (v : Int) = some (.int (mo : Int)) := by
      have : v = 0 ∨ v = 1 ∨ v = 2 ∨ v = 3 := by omega
      rcases this with rfl | rfl | rfl | rfl
      · exact ⟨5, by decide, by decide, rfl⟩
      · exact ⟨5, by decide, by decide, rfl⟩
      · exact ⟨5, by decide, by decide, rfl⟩
      · exact ⟨13, by decide, by decide, rfl⟩
    (first | simp_all_arith [em] | skip)
    refine keysOf_use hf0 hf8 hm0 (by omega) fun ys ns6 hy hyl => ?_
    (first | simp_arith [onSome_some] | skip)
    repeat (with_reducible refine And.intro (by first | omega | decide | exact Or.inl ⟨by omega, by omega⟩ | exact Or.inr ⟨by omega, by omega⟩ | (constructor <;> omega) | fail) ?_)
    exact q (ys, rs) ns6 hy (by show ys.length ≤ 13; omega) hrs (by show rs.length ≤ most; omega)
/-! part p_k53l51 -/
/-! the law's own writing -/
theorem keys_written_use {ks : List Str} {P : RV → List Cell → Prop} (hk : Kds ks) (hl : ks.length ≤ 1000) (q : P (.f (.str (keysT ks))) []) : TT_law_keys_written [.d (ksD ks)] [] P := by
  have szl : 200000 < sizeLine := by decide
  have hs1 : (Str.ofString " ").length = 1 := rfl
  (first | simp_arith [TT_law_keys_written, tt_law_keys_written, srtD_strs] | skip)
  by_cases e : ks = []
  · subst e
    have h0 : srt [] = [] := List.eq_nil_of_length_eq_zero (srt_perm []).length_eq
    have hd : (List.replicate (Int.toNat 1) [PyData.str (Str.ofString "-")]).flatten = [Str.ofString "-"].map PyData.str := rfl
    have hj : Txt.join (Str.ofString " ") [Str.ofString "-"] = keysT [] := by decide +kernel
    (first | simp_arith [h0, List.map_nil, List.isEmpty_nil, repL, hd, List.length_map, hj] | skip)
    rw [show strs? [PyData.str (Str.ofString "-")] = some [Str.ofString "-"] from rfl]
    refine ⟨by omega, ⟨by decide, by decide, by decide⟩, by decide, ?_⟩
    rw [onSome_some, hj]
    exact ⟨by decide, q⟩
  · have hne : (List.map PyData.str ks).isEmpty = false := by
      rw [List.isEmpty_map]
      cases ks with
      | nil => exact absurd rfl e
      | cons _ _ => rfl
    have h0 : repL 0 [PyData.str (Str.ofString "-")] = [] := rfl
    have hsum := sum_kinds hk.srt
    have hsl := (srt_perm ks).length_eq
    have hkT : keysT ks = Txt.join (Str.ofString " ") (srt ks) := if_neg e
    (first | simp_arith [hne, if_false, h0, List.append_nil] | skip)
    rw [hkT] at q
    refine ⟨by omega, ⟨by decide, by decide, by decide⟩, by simp; omega, ?_⟩
    rw [hs1]
    exact ⟨by omega, q⟩
theorem lines_use {h : House} {P : RV → List Cell → Prop} (w : Wh h) (q : P (.n (.lst ((keysT h.1 :: h.2.map roomT).map .str))) []) : TT_law_lines [.d (houseD h)] [] P := by
  have szl : 200000 < sizeLine := by decide
  have h4 := w.b
  have h5 := w.r
  have hs1 : (Str.ofString "+").length = 1 := rfl
  have hs2 : (Str.ofString ": ").length = 2 := rfl
  (first | simp_arith [TT_law_lines, tt_law_lines] | skip)
  refine keys_written_use w.good.keys (by omega) ?_
  (first | simp_arith [onSome_some] | skip)
  refine ⟨by omega, ?_⟩
  refine forW_fun roomD h.2 (fun i => ⟨[some (.d (houseD h)), some (.r 0), none, none], [.lst ((keysT h.1 :: (h.2.take i).map roomT).map .str)]⟩) (by simp [houseD, ksD]) ?_ ?_
  · intro i r N hr hN
    have hrm := List.mem_of_getElem? hr
    obtain ⟨g1, g2, g3, g4, g5⟩ := w.good.rooms r hrm
    have h3 := w.k r hrm
    have h1 := sum_kinds g1
    have hl := roomT_len w hrm
    have hj := join_len (sep := "+") g1 rfl
    have hil := (List.getElem?_eq_some_iff.mp hr).1
    have ht : (h.2.take (i + 1)).map roomT = (h.2.take i).map roomT ++ [roomT r] := by rw [List.take_add_one, hr, List.map_append]; rfl
    (first | simp_arith [onSome_some] | skip)
    rw [hs1, hs2]
    refine ⟨by omega, by omega, ?_⟩
    refine keys_written_use g2 (by omega) ?_
    have hkl := keysT_len g2
    (first | simp_arith [onSome_some] | skip)
    refine ⟨?_, ?_, hN _ ?_⟩
    · rw [Str.length_append, hs2]; omega
    · simp; omega
    · rw [ht]
      refine wk_of [] (by simp [SubS, ltO, AVal.lt, houseD, ksD]) ?_ rfl (by simp)
      simp [roomT]
  · rw [List.take_length]
    (first | simp_arith [onSome_some] | skip)
    exact q
/-! part p_read51 -/
/-! how a text is read -/
def keysF (z : Str) : List Str := if z = "-" then [] else Txt.split z " "
def roomF (l : Str) : Room' := (Txt.split (Txt.partition l ": ").1 "+", keysF (Txt.partition l ": ").2.2)
def linesF (z : Str) : List Str := Txt.split z "\n"
def houseF (z : Str) : House := match linesF z with
  | l :: ls => (keysF l, ls.map roomF)
  | [] => ([], [])
theorem part1_len (x y : Str) : (Txt.partition x y).1.length ≤ x.length := by
  rcases PyProof.Rows.partition_whole x y with ⟨e, hn⟩ | ⟨i, e, hi, hn⟩
  · rw [e]; exact Nat.le_refl _
  · rw [e]
    show (PySem.Builtin.Str.strSub x 0 i).length ≤ x.length
    have et := StrLaws.strSub_toList x 0 i
    have l2 : (PySem.Builtin.Str.strSub x 0 i).cps.toList.length = (PySem.Builtin.Str.strSub x 0 i).length := by simp [Str.length]
    have lx : x.cps.toList.length = x.length := by simp [Str.length]
    rw [← l2, et, List.length_take, List.length_drop]
    omega
theorem part3_len (x y : Str) : (Txt.partition x y).2.2.length ≤ x.length := by
  rcases PyProof.Rows.partition_whole x y with ⟨e, hn⟩ | ⟨i, e, hi, hn⟩
  · rw [e]; exact Nat.zero_le _
  · rw [e]
    show (PySem.Builtin.Str.strSub x (i + y.length) x.length).length ≤ x.length
    have et := StrLaws.strSub_toList x (i + y.length) x.length
    have l2 : (PySem.Builtin.Str.strSub x (i + y.length) x.length).cps.toList.length = (PySem.Builtin.Str.strSub x (i + y.length) x.length).length := by simp [Str.length]
    have lx : x.cps.toList.length = x.length := by simp [Str.length]
    rw [← l2, et, List.length_take, List.length_drop]
    omega
theorem keysF_many (z : Str) : (keysF z).length ≤ z.length + 1 := by
  unfold keysF
  split
  · exact Nat.zero_le _
  · exact split_many (by decide)
theorem keysF_part {z w : Str} (h : w ∈ keysF z) : w.length ≤ z.length := by
  unfold keysF at h
  split at h
  · cases h
  · exact (split_part h).1
theorem keys_from_any {z : Str} {P : RV → List Cell → Prop} (hl : z.length ≤ 100000) (q : P (.n (.lst ((keysF z).map .str))) []) : TT_keys_from [.d (.str z)] [] P := by
  have szl : 2000000 < sizeLine := by decide
  have hm := split_many (x := z) (sep := " ") (by decide)
  unfold keysF at q
  (first | simp_arith [TT_keys_from, tt_keys_from, splitN] | skip)
  by_cases e : z = "-"
  · rw [if_pos e] at q
    have d : decide (z = Str.ofString "-") = true := decide_eq_true e
    (first | simp_arith [d] | skip)
    exact q
  · rw [if_neg e] at q
    have d : decide (z = Str.ofString "-") = false := decide_eq_false e
    have hsp : ((Str.ofString " ").length == 0) = false := rfl
    (first | simp_arith [d, hsp] | skip)
    exact ⟨by omega, q⟩
theorem room_from_any {l : Str} {P : RV → List Cell → Prop} (hl : l.length ≤ 100000) (q : P (.f (roomD (roomF l))) []) : TT_room_from [.d (.str l)] [] P := by
  have szl : 2000000 < sizeLine := by decide
  have h1 := part1_len l ": "
  have h3 := part3_len l ": "
  have hm := split_many (x := (Txt.partition l ": ").1) (sep := "+") (by decide)
  have hc : ((Str.ofString ": ").length == 0) = false := rfl
  have hpl : ((Str.ofString "+").length == 0) = false := rfl
  (first | simp_arith [TT_room_from, tt_room_from, partA, splitN, hc] | skip)
  refine ⟨by omega, ⟨hpl, by omega⟩, keys_from_any (by omega) ?_⟩
  (first | simp_arith [onSome_some] | skip)
  exact ⟨by omega, q⟩
theorem strsOf_map (ks : List Str) : strsOf (ks.map .str) = ks := by
  induction ks with
  | nil => rfl
  | cons k ks ih =>
    show (match PyData.str k with | .str x => some x | _ => none).elim (strsOf (ks.map .str)) (· :: strsOf (ks.map .str)) = k :: ks
    exact congrArg (k :: ·) ih
theorem areKeys_iff {ks : List Str} : areKeysD (ksD ks) = true ↔ ∀ k ∈ ks, isKind k = true := by
  show (ks.map PyData.str).all isKindD = true ↔ _
  rw [List.all_map, List.all_eq_true]
  exact Iff.rfl
theorem isRoom_iff {r : Room'} : isRoomD (roomD r) = true ↔ goodRoom r := by
  show (areKeysD (ksD r.1) && areKeysD (ksD r.2) && (decide ((1 : Int) ≤ (r.1.map PyData.str).length) && decide (((r.1.map PyData.str).length : Int) ≤ 4) && decide (strsOf (r.1.map .str) = srt (strsOf (r.1.map .str))))) = true ↔ _
  rw [strsOf_map, List.length_map]
  simp only [Bool.and_eq_true, decide_eq_true_eq, areKeys_iff]
  unfold goodRoom
  constructor
  · rintro ⟨⟨h1, h2⟩, ⟨h3, h4⟩, h5⟩
    exact ⟨h1, h2, by omega, by omega, h5.symm⟩
  · rintro ⟨h1, h2, h3, h4, h5⟩
    exact ⟨⟨h1, h2⟩, ⟨by omega, by omega⟩, h5.symm⟩
theorem isHouse_iff {h : House} : isHouseD (houseD h) = true ↔ (∀ k ∈ h.1, isKind k = true) ∧ ∀ r ∈ h.2, goodRoom r := by
  show (areKeysD (ksD h.1) && (h.2.map roomD).all isRoomD) = true ↔ _
  rw [Bool.and_eq_true, areKeys_iff, List.all_map, List.all_eq_true]
  exact and_congr_right fun _ => forall_congr' fun r => forall_congr' fun _ => isRoom_iff
theorem join_sum {sep : Str} : ∀ (W : List Str), (W.map (·.length)).sum + (W.length - 1) * sep.length ≤ (Str.join sep W).length
  | [] => by simp
  | [x] => by simp [Str.join]
  | x :: y :: r => by
    have ih := join_sum (sep := sep) (y :: r)
    rw [join_cons, Str.length_append, Str.length_append]
    simp only [List.map_cons, List.sum_cons, List.length_cons, Nat.add_sub_cancel] at ih ⊢
    rw [Nat.add_mul, Nat.one_mul]
    omega
theorem lines_sum (z : Str) : ((linesF z).map (·.length)).sum + (linesF z).length ≤ z.length + 1 := by
  have h := join_sum (sep := "\n") (linesF z)
  have e : Str.join "\n" (linesF z) = z := by unfold linesF; rw [← txt_join, txt_join, StrLaws.join_split]
  rw [e, show ("\n" : Str).length = 1 from rfl, Nat.mul_one] at h
  omega
theorem lines_ne (z : Str) : ∃ l ls, linesF z = l :: ls := split_cons z "\n"
theorem line_part {z l : Str} (h : l ∈ linesF z) : l.length ≤ z.length := (split_part h).1
theorem rooms_sum : ∀ (ls : List Str), (∀ l ∈ ls, goodRoom (roomF l)) → (((ls.map roomF).map roomT).map (·.length)).sum ≤ 5 * (ls.map (·.length)).sum + 35 * ls.length
  | [], _ => by simp
  | l :: ls, h => by
    have ih := rooms_sum ls fun x hx => h x (List.mem_cons_of_mem _ hx)
    have h1 := roomT_le (h l (List.mem_cons_self ..))
    have h2 := keysF_many (Txt.partition l ": ").2.2
    have h3 := part3_len l ": "
    have h4 : (roomF l).2.length ≤ l.length + 1 := by show (keysF _).length ≤ _; omega
    simp only [List.map_cons, List.sum_cons, List.length_cons]
    omega
theorem houseF_sz {z : Str} (hz : z.length ≤ 10000) : SzD (houseD (houseF z)) := by
  obtain ⟨l, ls, e⟩ := lines_ne z
  have hs := lines_sum z
  have hl : l.length ≤ z.length := line_part (by rw [e]; exact List.mem_cons_self ..)
  have key : ∀ {w : Str}, w.length ≤ 10000 → SzD (ksD (keysF w)) := fun {w} hw => by
    refine ⟨by rw [List.length_map]; have := keysF_many w; omega, szAll_of fun d m => ?_⟩
    obtain ⟨k, hk, rfl⟩ := List.mem_map.mp m
    have := keysF_part hk
    show k.length ≤ 100000
    omega
  have eh : houseF z = (keysF l, ls.map roomF) := by unfold houseF; rw [e]
  rw [eh]
  rw [e, List.map_cons, List.sum_cons, List.length_cons] at hs
  refine ⟨key (by omega), ⟨by rw [List.length_map, List.length_map]; omega, szAll_of fun d m => ?_⟩, True.intro⟩
  obtain ⟨r, hr, rfl⟩ := List.mem_map.mp m
  obtain ⟨x, hx, rfl⟩ := List.mem_map.mp hr
  have hx2 : x.length ≤ z.length := line_part (by rw [e]; exact List.mem_cons_of_mem _ hx)
  have h1 := part1_len x ": "
  have h3 := part3_len x ": "
  refine ⟨⟨by rw [List.length_map]; have := split_many (x := (Txt.partition x ": ").1) (sep := "+") (by decide); show (Txt.split _ _).length ≤ _; omega, szAll_of fun d m => ?_⟩, key (by omega), True.intro⟩
  obtain ⟨k, hk, rfl⟩ := List.mem_map.mp m
  have := (split_part hk).1
  show k.length ≤ 100000
  omega
theorem houseF_good {z : Str} (hz : z.length ≤ 10000) (hi : isHouseD (houseD (houseF z)) = true) : GoodHouse (houseF z) ∧ (keysT (houseF z).1).length + (((houseF z).2.map roomT).map (·.length)).sum + (houseF z).2.length ≤ 1000000 := by
  obtain ⟨g1, g2⟩ := isHouse_iff.mp hi
  obtain ⟨l, ls, e⟩ := lines_ne z
  have hs := lines_sum z
  have hl : l.length ≤ z.length := line_part (by rw [e]; exact List.mem_cons_self ..)
  have eh : houseF z = (keysF l, ls.map roomF) := by unfold houseF; rw [e]
  rw [e, List.map_cons, List.sum_cons, List.length_cons] at hs
  rw [eh] at g1 g2 ⊢
  have hm := keysF_many l
  have gr : ∀ x ∈ ls, goodRoom (roomF x) := fun x hx => g2 _ (List.mem_map.mpr ⟨x, hx, rfl⟩)
  have hrs := rooms_sum ls gr
  have hk := keysT_len (ks := keysF l) g1
  refine ⟨⟨g1, g2, by show (keysF l).length ≤ _; omega, by show (ls.map roomF).length ≤ _; rw [List.length_map]; omega, fun r hr => ?_⟩, by show (keysT (keysF l)).length + (((ls.map roomF).map roomT).map (·.length)).sum + (ls.map roomF).length ≤ 1000000; rw [List.length_map ..]; omega⟩
  obtain ⟨x, hx, rfl⟩ := List.mem_map.mp hr
  have hx2 : x.length ≤ z.length := line_part (by rw [e]; exact List.mem_cons_of_mem _ hx)
  have h3 := part3_len x ": "
  have h4 := keysF_many (Txt.partition x ": ").2.2
  show (keysF _).length ≤ _
  omega
theorem read_any {E : ExT} {z : Str} {P : RV → List Cell → Prop} {PE : PyData → List Cell → Prop} (hz : z.length ≤ 10000) (q : isHouseD (houseD (houseF z)) = true → houseT (houseF z) = z → P (.f (houseD (houseF z))) [])
    (qe : ¬ (isHouseD (houseD (houseF z)) = true ∧ houseT (houseF z) = z) → PE (errD (E.c .text) (.list [])) []) : TT_read_house E [.d (.str z)] [] P PE := by
  have szl : 2000000 < sizeLine := by decide
  have es : kitB "str" "str" = some true := by decide +kernel
  obtain ⟨l, ls, e⟩ := lines_ne z
  have hs := lines_sum z
  have hl : l.length ≤ z.length := line_part (by rw [e]; exact List.mem_cons_self ..)
  have eh : houseF z = (keysF l, ls.map roomF) := by unfold houseF; rw [e]
  have hc : ((Str.ofString "\n").length == 0) = false := rfl
  have e2 : Txt.split z (Str.ofString "\n") = l :: ls := e
  rw [e, List.map_cons, List.sum_cons, List.length_cons] at hs
  have ecut : cutD (PyData.str l :: ls.map PyData.str) (some 1) none = ls.map PyData.str := by
    unfold cutD
    rw [show HT.sIx (PyData.str l :: ls.map PyData.str).length 0 (some 1) = 1 from by rw [show (1 : Int) = ((1 : Nat) : Int) from rfl, HT.sIx_nat, List.length_cons]; omega, HT.sIx_none]
    rw [List.drop_succ_cons, List.drop_zero, List.length_cons, Nat.add_sub_cancel]
    exact List.take_of_length_le (Nat.le_refl _)
  have hlx : ∀ x ∈ ls, x.length ≤ z.length := fun x hx => line_part (by rw [e]; exact List.mem_cons_of_mem _ hx)
  (first | simp_arith [TT_read_house, tt_read_house, splitN, e2, hc, es] | skip)
  refine ⟨by omega, keys_from_any (by omega) ?_⟩
  (first | simp_arith [ecut] | skip)
  refine lcW_map trivial PyData.str (fun _ => true) (fun x => roomD (roomF x)) (fun x hx R1 R2 h1 h2 => ?_) ?_
  · have := hlx x hx
    (first | simp_arith [onSome_some] | skip)
    refine room_from_any (by omega) ?_
    (first | simp_arith [onSome_some] | skip)
    exact h1 rfl
  have ef : (ls.filter fun _ => true).map (fun x => roomD (roomF x)) = (ls.map roomF).map roomD := by rw [List.filter_eq_self.mpr fun _ _ => rfl, List.map_map]; rfl
  have ef2 : (ls.filter fun _ => true).map (fun x : Str => PyData.tuple [.list ((roomF x).1.map PyData.str), .list ((roomF x).2.map PyData.str)]) = (ls.map roomF).map roomD := ef
  have ed : PyData.tuple [.list ((keysF l).map PyData.str), .list ((ls.map roomF).map roomD)] = houseD (houseF z) := by rw [eh]; rfl
  (first | simp_arith [List.nil_append] | skip)
  repeat (with_reducible refine And.intro (by first | omega | decide | exact Or.inl ⟨by omega, by omega⟩ | exact Or.inr ⟨by omega, by omega⟩ | (constructor <;> omega) | fail) ?_)
  rw [ef2, ed]
  refine is_house_any (houseF_sz hz) ?_
  cases hi : isHouseD (houseD (houseF z)) with
  | false =>
    (first | simp_arith [excP] | skip)
    exact qe fun x => by rw [hi] at x; exact absurd x.1 (by decide)
  | true =>
    obtain ⟨gd, hsz⟩ := houseF_good hz hi
    (first | simp_arith [onSome_some] | skip)
    refine show_house_x gd hsz ?_
    by_cases he : houseT (houseF z) = z
    · have d : decide (houseT (houseF z) = z) = true := decide_eq_true he
      (first | simp_arith [d] | skip)
      exact q hi he
    · have d : decide (houseT (houseF z) = z) = false := decide_eq_false he
      (first | simp_arith [d, excP] | skip)
      exact qe fun x => he x.2
def NoTxt (d : PyData) : Prop := ∃ tn, tyD d = some tn ∧ kitB tn "str" = some false
def noTB (d : PyData) : Bool := match tyD d with
  | some tn => kitB tn "str" == some false
  | none => false
theorem noTB_of {d : PyData} (h : noTB d = true) : NoTxt d := by
  unfold noTB at h
  split at h
  · rename_i tn e
    exact ⟨tn, e, eq_of_beq h⟩
  · cases h
theorem read_noD {E : ExT} {d : PyData} {P : RV → List Cell → Prop} {PE : PyData → List Cell → Prop} (hd : NoTxt d) (qe : PE (errD (E.c .text) (.list [])) []) : TT_read_house E [.d d] [] P PE := by
  obtain ⟨tn, h1, h2⟩ := hd
  (first | simp_arith [TT_read_house, tt_read_house, isiT, tyOf_d, h1, h2, excP] | skip)
  exact qe
/-! part p_lread51 -/
/-! the law's own reading -/
theorem signs_eq (x : Str) : signsD x = x.cps.toList.map fun c => PyData.str ⟨#[c]⟩ := rfl
theorem filter_emp {α β : Type} (l : List α) (p : α → Bool) (g : α → β) : ((l.filter p).map g).isEmpty = l.all fun c => !p c := by
  induction l with
  | nil => rfl
  | cons a l ih =>
    by_cases h : p a = true
    · rw [List.filter_cons_of_pos h, List.all_cons, h]; rfl
    · rw [List.filter_cons_of_neg h, List.all_cons, ih]
      simp [h]
def keysL (z : Str) : Option (List Str) := if z = "-" then some [] else if (Txt.split z " ").all isKind = true ∧ srt (Txt.split z " ") = Txt.split z " " then some (Txt.split z " ") else none
def roomL (l : Str) : Option Room' :=
  if (Txt.partition l ": ").2.1 ≠ "" ∧ (Txt.split (Txt.partition l ": ").1 "+").all isKind = true ∧ (Txt.split (Txt.partition l ": ").1 "+").length ≤ 4 ∧ srt (Txt.split (Txt.partition l ": ").1 "+") = Txt.split (Txt.partition l ": ").1 "+"
  then (keysL (Txt.partition l ": ").2.2).map fun ks => (Txt.split (Txt.partition l ": ").1 "+", ks) else none
def roomsL : List Str → Option (List Room')
  | [] => some []
  | l :: ls => match roomL l, roomsL ls with
    | some r, some rs => some (r :: rs)
    | _, _ => none
def readL (z : Str) : Option House := match linesF z with
  | l :: ls => match keysL l, roomsL ls with
    | some ks, some rs => some (ks, rs)
    | _, _ => none
  | [] => none
theorem law_kinds_use {W : List Str} {P : RV → List Cell → Prop} (hw : ∀ w ∈ W, w.length ≤ 100000) (hl : W.length ≤ 100000) (q : W.all isKind = true → P (.n (.lst (W.map .str))) []) (qn : W.all isKind = false → P (.f .none) []) : TT_law_kinds [.d (.list (W.map .str))] [] P := by
  have szl : 2000000 < sizeLine := by decide
  (first | simp_arith [TT_law_kinds, tt_law_kinds] | skip)
  refine forW_map PyData.str W (fun i s => (∀ w ∈ W.take i, isKind w = true) ∧ s = ⟨[some (.d (.list (W.map .str))), none, none], []⟩) ⟨(fun w hw => by simp at hw), rfl⟩ ?_ ?_
  · rintro i x s' N hx ⟨ha, rfl⟩ hN
    have hxl := hw x (List.mem_of_getElem? hx)
    have good : isKind x = true → N ⟨[some (.d (.list (W.map .str))), some (.d (.str x)), none], []⟩ := fun hk => hN _ ⟨[some (.d (.list (W.map .str))), none, none], []⟩ (wk_of [] (by simp [SubS, ltO, AVal.lt]) rfl rfl (by simp)) ⟨fun w hw => by
      rw [List.take_add_one, hx] at hw
      rcases List.mem_append.mp hw with hw | hw
      · exact ha w hw
      · rw [Option.toList_some, List.mem_singleton] at hw
        rw [hw]; exact hk, rfl⟩
    have bad : isKind x = false → P (.f .none) [] := fun hk => qn (by
      cases hc : W.all isKind with
      | false => rfl
      | true => rw [List.all_eq_true.mp hc x (List.mem_of_getElem? hx)] at hk; cases hk)
    unfold isKind at good bad
    (first | simp_arith [onSome_some] | skip)
    cases c1 : decide ((1 : Int) ≤ x.length) with
    | false =>
      rw [c1, Bool.false_and, Bool.false_and] at bad
      (first | simp_arith [c1] | skip)
      exact ⟨by omega, bad rfl⟩
    | true =>
      rw [c1, Bool.true_and] at good bad
      cases c2 : decide ((x.length : Int) ≤ 4) with
      | false =>
        rw [c2, Bool.false_and] at bad
        (first | simp_arith [c1, c2] | skip)
        exact ⟨by omega, bad rfl⟩
      | true =>
        rw [c2, Bool.true_and] at good bad
        (first | simp_arith [c1, c2] | skip)
        refine ⟨by omega, ?_⟩
        rw [signs_eq]
        refine ⟨by omega, ?_⟩
        refine lcW_map trivial (fun c => PyData.str ⟨#[c]⟩) (fun c => !decide (c ∈ letters.cps.toList)) (fun c => PyData.str ⟨#[c]⟩) (fun c hc R1 R2 g1 g2 => ?_) ?_
        · (first | simp_arith [onSome_some] | skip)
          refine ⟨c, rfl, rfl, ?_⟩
          have el : (Str.ofString "abcdefghijklmnopqrstuvwxyz").cps.toList = letters.cps.toList := rfl
          by_cases hm : c ∈ letters.cps.toList
          · have hm2 : decide (c ∈ letters.cps.toList) = true := decide_eq_true hm
            exact iteE (by rw [el, hm2]) (g2 (by rw [hm2]; rfl))
          · have hm2 : decide (c ∈ letters.cps.toList) = false := decide_eq_false hm
            rw [if_pos (by rw [el, hm2]; rfl)]
            exact g1 (by rw [hm2]; rfl)
        (first | simp_arith [List.nil_append, filter_emp, Bool.not_not] | skip)
        cases c3 : x.cps.toList.all fun c => decide (c ∈ letters.cps.toList) with
        | false => exact bad c3
        | true => exact good c3
  · rintro s' ⟨ha, rfl⟩
    rw [List.take_length] at ha
    (first | simp_arith [onSome_some] | skip)
    rw [if_neg (by omega)]
    exact q (List.all_eq_true.mpr ha)
theorem keys_read_use {z : Str} {P : RV → List Cell → Prop} (hz : z.length ≤ 50000) (q1 : z = "-" → P (.n (.lst [])) []) (q2 : ∀ ks, z ≠ "-" → keysL z = some ks → P (.f (ksD ks)) []) (q3 : z ≠ "-" → keysL z = none → P (.f .none) []) : TT_law_keys_read [.d (.str z)] [] P := by
  have szl : 2000000 < sizeLine := by decide
  have hm := split_many (x := z) (sep := " ") (by decide)
  have hsp : ((Str.ofString " ").length == 0) = false := rfl
  unfold keysL at q2 q3
  (first | simp_arith [TT_law_keys_read, tt_law_keys_read, splitN] | skip)
  by_cases e : z = "-"
  · have d : decide (z = Str.ofString "-") = true := decide_eq_true e
    (first | simp_arith [d] | skip)
    exact q1 e
  · have d : decide (z = Str.ofString "-") = false := decide_eq_false e
    have q2 := fun ks => q2 ks e
    have q3 := q3 e
    rw [if_neg e] at q3
    (first | simp_arith [d, hsp] | skip)
    refine ⟨by omega, law_kinds_use (fun w hw => Nat.le_trans (split_part hw).1 (by omega)) (by omega) (fun hk => ?_) fun hk => ?_⟩
    · have kd : Kds (Txt.split z (Str.ofString " ")) := List.all_eq_true.mp hk
      have ev : PyData.eqv (.list ((Txt.split z (Str.ofString " ")).map .str)) (.list ((srt (Txt.split z (Str.ofString " "))).map .str)) = decide (Txt.split z (Str.ofString " ") = srt (Txt.split z (Str.ofString " "))) := eqv_ks _ _
      (first | simp_arith [srtD_strs] | skip)
      refine ⟨by omega, eqOk_lay (lay_ks kd) (lay_ks kd.srt), ?_⟩
      rw [ev]
      by_cases hs : Txt.split z (Str.ofString " ") = srt (Txt.split z (Str.ofString " "))
      · rw [decide_eq_true hs, if_pos rfl]
        refine ⟨_, rfl, ?_⟩
        (first | simp_arith [onSome_some] | skip)
        exact q2 _ (by rw [if_neg e, if_pos ⟨hk, hs.symm⟩])
      · rw [decide_eq_false hs, if_neg (by decide)]
        refine ⟨_, rfl, ?_⟩
        (first | simp_arith [onSome_some] | skip)
        exact q3 (by rw [if_neg fun x => hs x.2.symm])
    · (first | simp_arith [onSome_some] | skip)
      exact ⟨by omega, q3 (by rw [if_neg fun x => by rw [hk] at x; exact absurd x.1 (by decide)])⟩
def optD : Option (List Str) → PyData
  | some ks => ksD ks
  | none => .none
def optH : Option House → PyData
  | some h => houseD h
  | none => .none
/-- what is told, as data -/
theorem keys_read_f {z : Str} {P : RV → List Cell → Prop} (hz : z.length ≤ 50000) (q : ∀ rv : RV, (∀ (K : AVal → AS → Prop) (s : AS), resF K rv s = K (.d (optD (keysL z))) s) → P rv []) : TT_law_keys_read [.d (.str z)] [] P :=
  keys_read_use hz (fun e => q _ fun K s => by
    have h : keysL z = some [] := by
      unfold keysL
      rw [if_pos e]
    rw [h]
    (first | simp_arith [optD] | skip)) (fun ks e h => q _ fun K s => by rw [h]; rfl) fun e h => q _ fun K s => by rw [h]; rfl
theorem keysL_kds {z : Str} {ks : List Str} (h : keysL z = some ks) : Kds ks ∧ srt ks = ks := by
  unfold keysL at h
  split at h
  · cases h
    exact ⟨(fun _ h => by cases h), List.eq_nil_of_length_eq_zero (srt_perm []).length_eq⟩
  · split at h
    · rename_i c
      cases h
      exact ⟨List.all_eq_true.mp c.1, c.2⟩
    · cases h
theorem roomsL_bad {ls : List Str} {i : Nat} {l : Str} (hl : ls[i]? = some l) (hb : roomL l = none) : roomsL ls = none := by
  induction ls generalizing i with
  | nil => simp at hl
  | cons x ls ih =>
    unfold roomsL
    cases i with
    | zero =>
      obtain rfl : x = l := by simpa using hl
      rw [hb]
    | succ i =>
      rw [ih (by simpa using hl)]
      cases roomL x <;> rfl
theorem roomsL_good : ∀ {ls : List Str} {rs : List Room'}, Paired (fun l r => roomL l = some r) ls rs → roomsL ls = some rs
  | [], _, .nil => rfl
  | _ :: _, _ :: _, .cons h t => by
    unfold roomsL
    rw [h, roomsL_good t]
theorem optD_s (ks : List Str) : optD (some ks) = .list (ks.map .str) := rfl
theorem optD_n : optD none = .none := rfl
theorem law_read_use {z : Str} {P : RV → List Cell → Prop} (hz : z.length ≤ 10000) (q : P (.f (optH (readL z))) []) : TT_law_read [.d (.str z)] [] P := by
  have szl : 2000000 < sizeLine := by decide
  obtain ⟨l, ls, e⟩ := lines_ne z
  have hs := lines_sum z
  have hl : l.length ≤ z.length := line_part (by rw [e]; exact List.mem_cons_self ..)
  have hc : ((Str.ofString "\n").length == 0) = false := rfl
  have e2 : Txt.split z (Str.ofString "\n") = l :: ls := e
  have er : readL z = match keysL l, roomsL ls with
    | some ks, some rs => some (ks, rs)
    | _, _ => none := by unfold readL; rw [e]
  rw [e, List.map_cons, List.sum_cons, List.length_cons] at hs
  have ecut : cutD (PyData.str l :: ls.map PyData.str) (some 1) none = ls.map PyData.str := by
    unfold cutD
    rw [show HT.sIx (PyData.str l :: ls.map PyData.str).length 0 (some 1) = 1 from by rw [show (1 : Int) = ((1 : Nat) : Int) from rfl, HT.sIx_nat, List.length_cons]; omega, HT.sIx_none]
    rw [List.drop_succ_cons, List.drop_zero, List.length_cons, Nat.add_sub_cancel]
    exact List.take_of_length_le (Nat.le_refl _)
  have hlx : ∀ x ∈ ls, x.length ≤ z.length := fun x hx => line_part (by rw [e]; exact List.mem_cons_of_mem _ hx)
  (first | simp_arith [TT_law_read, tt_law_read, splitN, e2, hc] | skip)
  refine ⟨by omega, keys_read_f (by omega) fun rv hrv => ?_⟩
  rw [hrv]
  (first | simp_arith [ecut] | skip)
  have fail : ∀ {i : Nat} {x : Str}, ls[i]? = some x → roomL x = none → P (.f .none) [] := fun hx hb => by
    have := roomsL_bad hx hb
    rw [er, this] at q
    revert q
    cases keysL l <;> exact id
  refine forW_map PyData.str ls (fun i s => ∃ rs : List Room', Paired (fun l r => roomL l = some r) (ls.take i) rs ∧ s = ⟨[some (.d (.str z)), some (.d (.list (PyData.str l :: ls.map PyData.str))), some (.d (optD (keysL l))), some (.r 0), none, none, none, none, none, none], [.lst (rs.map roomD)]⟩) ⟨[], .nil, rfl⟩ ?_ ?_
  · rintro i x s' N hx ⟨rs, hrs, rfl⟩ hN
    have hxl := hlx x (List.mem_of_getElem? hx)
    have hil := (List.getElem?_eq_some_iff.mp hx).1
    have h1 := part1_len x ": "
    have h3 := part3_len x ": "
    have hm := split_many (x := (Txt.partition x ": ").1) (sep := "+") (by decide)
    have hcc : ((Str.ofString ": ").length == 0) = false := rfl
    have hpl : ((Str.ofString "+").length == 0) = false := rfl
    have fail := fun hb => fail hx hb
    unfold roomL at fail
    (first | simp_arith [partA, splitN, hcc, hpl] | skip)
    refine ⟨by omega, by omega, law_kinds_use (fun w hw => Nat.le_trans (split_part hw).1 (by omega)) (by omega) (fun hk => ?_) fun hk => ?_⟩
    · (first | simp_arith [onSome_some] | skip)
      refine keys_read_f (by omega) fun rv2 hrv2 => ?_
      rw [hrv2]
      have kd : Kds (Txt.split (Txt.partition x (Str.ofString ": ")).1 (Str.ofString "+")) := List.all_eq_true.mp hk
      have ev : PyData.eqv (.list ((Txt.split (Txt.partition x (Str.ofString ": ")).1 (Str.ofString "+")).map .str)) (.list ((srt (Txt.split (Txt.partition x (Str.ofString ": ")).1 (Str.ofString "+"))).map .str)) = decide (Txt.split (Txt.partition x (Str.ofString ": ")).1 (Str.ofString "+") = srt (Txt.split (Txt.partition x (Str.ofString ": ")).1 (Str.ofString "+"))) := eqv_ks _ _
      (first | simp_arith [srtD_strs] | skip)
      by_cases hmk : (Txt.partition x (Str.ofString ": ")).2.1 = Str.ofString ""
      · rw [if_pos (decide_eq_true hmk)]
        exact fail (if_neg fun y => y.1 hmk)
      rw [if_neg (by rw [decide_eq_false hmk]; decide)]
      cases hkr : keysL (Txt.partition x (Str.ofString ": ")).2.2 with
      | none =>
        (first | simp_arith [optD_s, optD_n] | skip)
        refine fail ?_
        have hkr : keysL (Txt.partition x ": ").2.2 = none := hkr
        rw [hkr]
        split <;> rfl
      | some ks =>
        (first | simp_arith [optD_s, optD_n] | skip)
        by_cases h4 : (4 : Int) < ((Txt.split (Txt.partition x (Str.ofString ": ")).1 (Str.ofString "+")).length : Int)
        · rw [if_pos (decide_eq_true h4)]
          exact fail (if_neg fun y => by have h5 : (Txt.split (Txt.partition x (Str.ofString ": ")).1 (Str.ofString "+")).length ≤ 4 := y.2.2.1; omega)
        rw [if_neg (by rw [decide_eq_false h4]; decide)]
        refine ⟨eqOk_lay (lay_ks kd) (lay_ks kd.srt), ?_⟩
        rw [ev]
        by_cases hs5 : Txt.split (Txt.partition x (Str.ofString ": ")).1 (Str.ofString "+") = srt (Txt.split (Txt.partition x (Str.ofString ": ")).1 (Str.ofString "+"))
        · have hroom : roomL x = some (Txt.split (Txt.partition x (Str.ofString ": ")).1 (Str.ofString "+"), ks) := by
            have c : (Txt.partition x ": ").2.1 ≠ "" ∧ (Txt.split (Txt.partition x ": ").1 "+").all isKind = true ∧ (Txt.split (Txt.partition x ": ").1 "+").length ≤ 4 ∧ srt (Txt.split (Txt.partition x ": ").1 "+") = Txt.split (Txt.partition x ": ").1 "+" := ⟨hmk, hk, by have h5 : ¬ (4 : Int) < ((Txt.split (Txt.partition x ": ").1 "+").length : Int) := h4; omega, hs5.symm⟩
            unfold roomL
            have hkr : keysL (Txt.partition x ": ").2.2 = some ks := hkr
            rw [if_pos c, hkr]
            rfl
          have hrl := Paired.len hrs
          rw [List.length_take] at hrl
          rw [decide_eq_true hs5, if_neg (by decide)]
          have ht : ls.take (i + 1) = ls.take i ++ [x] := by rw [List.take_add_one, hx]; rfl
          refine ⟨by omega, by omega, hN _ ⟨[some (.d (.str z)), some (.d (.list (PyData.str l :: ls.map PyData.str))), some (.d (optD (keysL l))), some (.r 0), none, none, none, none, none, none], [.lst ((rs ++ [((Txt.split (Txt.partition x (Str.ofString ": ")).1 (Str.ofString "+"), ks) : Room')]).map roomD)]⟩ (wk_of [] (by simp [SubS, ltO, AVal.lt]) (by rw [List.map_append]; rfl) rfl (by simp)) ⟨_, ?_, rfl⟩⟩
          rw [ht]
          exact paired_snoc hrs hroom
        · rw [decide_eq_false hs5, if_pos (show (!false) = true from rfl)]
          exact fail (if_neg fun y => hs5 y.2.2.2.symm)
    · (first | simp_arith [onSome_some] | skip)
      refine keys_read_f (by omega) fun rv2 hrv2 => ?_
      rw [hrv2]
      have fail := fail (by rw [if_neg fun y => by rw [hk] at y; exact absurd y.2.1 (by decide)])
      cases hmk : decide ((Txt.partition x ": ").2.1 = Str.ofString "") with
      | true =>
        (first | simp_arith [hmk] | skip)
        exact fail
      | false =>
        (first | simp_arith [hmk] | skip)
        exact fail
  · rintro s' ⟨rs, hrs, rfl⟩
    rw [List.take_length] at hrs
    have hr := roomsL_good hrs
    rw [er, hr] at q
    cases hkl : keysL l with
    | none =>
      rw [hkl] at q
      (first | simp_arith [optD_s, optD_n] | skip)
      exact q
    | some ks =>
      rw [hkl] at q
      (first | simp_arith [optD_s, optD_n] | skip)
      exact ⟨by omega, q⟩
/-! part p_eq51 -/
/-! both readings are one -/
theorem part_whole {x y : Str} (h : (Txt.partition x y).2.1 ≠ "") : x = (Txt.partition x y).1 ++ y ++ (Txt.partition x y).2.2 := by
  rcases PyProof.Rows.partition_whole x y with ⟨e, hn⟩ | ⟨i, e, hi, hn⟩
  · rw [e] at h
    exact absurd rfl h
  · rw [e]
    have h2 := hi.2
    have h1 := hi.1
    rw [StrLaws.subAt_eq] at h2
    have h3 : List.take y.length (List.drop i x.cps.toList) = y.cps.toList := eq_of_beq h2
    refine str_extL ?_
    show x.cps.toList = (PySem.Builtin.Str.strSub x 0 i ++ y ++ PySem.Builtin.Str.strSub x (i + y.length) x.length).cps.toList
    rw [str_app, str_app, StrLaws.strSub_toList, StrLaws.strSub_toList, List.drop_zero, Nat.sub_zero, ← h3, List.append_assoc]
    have lx : x.cps.toList.length = x.length := by simp [Str.length]
    rw [show List.take (x.length - (i + y.length)) (List.drop (i + y.length) x.cps.toList) = List.drop (i + y.length) x.cps.toList from List.take_of_length_le (by rw [List.length_drop, lx]; exact Nat.le_refl _)]
    rw [← List.drop_drop, List.take_append_drop, List.take_append_drop]
theorem keysL_eq {l : Str} {ks : List Str} (h : keysL l = some ks) : keysF l = ks ∧ keysT ks = l := by
  unfold keysL at h
  unfold keysF
  split at h
  · rename_i e
    cases h
    rw [if_pos e, e]
    exact ⟨rfl, by unfold keysT; rw [if_pos rfl]⟩
  · rename_i e
    rw [if_neg e]
    split at h
    · rename_i c
      cases h
      refine ⟨rfl, ?_⟩
      obtain ⟨w, r, hw⟩ := split_cons l " "
      unfold keysT
      rw [if_neg (by rw [hw]; simp), c.2, txt_join, StrLaws.join_split]
    · cases h
theorem roomL_eq {l : Str} {r : Room'} (h : roomL l = some r) : roomF l = r ∧ goodRoom r ∧ roomT r = l := by
  unfold roomL at h
  split at h
  · rename_i c
    obtain ⟨c1, c2, c3, c4⟩ := c
    cases hk : keysL (Txt.partition l ": ").2.2 with
    | none => rw [hk] at h; cases h
    | some ks =>
      rw [hk] at h
      obtain rfl : (Txt.split (Txt.partition l ": ").1 "+", ks) = r := by simpa using h
      obtain ⟨k1, k2⟩ := keysL_eq hk
      obtain ⟨k3, k4⟩ := keysL_kds hk
      refine ⟨?_, ⟨List.all_eq_true.mp c2, k3, ?_, c3, c4⟩, ?_⟩
      · unfold roomF
        rw [k1]
      · obtain ⟨w, r, hw⟩ := split_cons (Txt.partition l ": ").1 "+"
        rw [hw]
        simp
      · unfold roomT
        rw [k2, txt_join, StrLaws.join_split]
        exact (part_whole c1).symm
  · cases h
theorem roomsL_eq : ∀ {ls : List Str} {rs : List Room'}, roomsL ls = some rs → ls.map roomF = rs ∧ (∀ r ∈ rs, goodRoom r) ∧ rs.map roomT = ls
  | [], rs, h => by
    obtain rfl : [] = rs := by simpa [roomsL] using h
    exact ⟨rfl, (fun _ h => by cases h), rfl⟩
  | l :: ls, rs, h => by
    unfold roomsL at h
    cases h1 : roomL l with
    | none => rw [h1] at h; cases h
    | some r =>
      cases h2 : roomsL ls with
      | none => rw [h1, h2] at h; cases h
      | some rs2 =>
        rw [h1, h2] at h
        obtain rfl : r :: rs2 = rs := by simpa using h
        obtain ⟨a1, a2, a3⟩ := roomL_eq h1
        obtain ⟨b1, b2, b3⟩ := roomsL_eq h2
        refine ⟨by rw [List.map_cons, a1, b1], fun x hx => ?_, by rw [List.map_cons, a3, b3]⟩
        rcases List.mem_cons.mp hx with rfl | hx
        · exact a2
        · exact b2 x hx
theorem readL_some {z : Str} {h : House} (hr : readL z = some h) : houseF z = h ∧ isHouseD (houseD h) = true ∧ houseT h = z := by
  obtain ⟨l, ls, e⟩ := lines_ne z
  unfold readL at hr
  unfold houseF
  rw [e] at hr ⊢
  dsimp only at hr ⊢
  cases h1 : keysL l with
  | none => rw [h1] at hr; cases hr
  | some ks =>
    cases h2 : roomsL ls with
    | none => rw [h1, h2] at hr; cases hr
    | some rs =>
      rw [h1, h2] at hr
      obtain rfl : (ks, rs) = h := by simpa using hr
      obtain ⟨a1, a2⟩ := keysL_eq h1
      obtain ⟨a3, a4⟩ := keysL_kds h1
      obtain ⟨b1, b2, b3⟩ := roomsL_eq h2
      refine ⟨by show (keysF l, ls.map roomF) = (ks, rs); rw [a1, b1], isHouse_iff.mpr ⟨a3, b2⟩, ?_⟩
      show Txt.join "\n" (keysT ks :: rs.map roomT) = z
      rw [a2, b3, ← e, txt_join]
      exact StrLaws.join_split _ _
theorem keysL_of {ks : List Str} (hk : Kds ks) : keysL (keysT ks) = some (keysF (keysT ks)) := by
  unfold keysL keysF
  have hd := keysT_dash hk
  by_cases e : ks = []
  · have c : keysT ks = "-" := of_decide_eq_true (hd.trans (decide_eq_true e))
    rw [if_pos c, if_pos c]
  · have c : keysT ks ≠ "-" := of_decide_eq_false (hd.trans (decide_eq_false e))
    rw [if_neg c, if_neg c, keysT_split hk e, if_pos ⟨List.all_eq_true.mpr hk.srt, srt_srt ks⟩]
theorem roomL_of {r : Room'} (g : goodRoom r) : roomL (roomT r) = some (roomF (roomT r)) := by
  obtain ⟨g1, g2, g3, g4, g5⟩ := g
  have hne : r.1 ≠ [] := fun z => by rw [z] at g3; simp at g3
  unfold roomL roomF
  rw [room_part g1]
  dsimp only
  rw [locks_split g1 hne, if_pos ⟨by decide +kernel, List.all_eq_true.mpr g1, g4, g5⟩, keysL_of g2]
  rfl
theorem roomsL_of : ∀ {rs : List Room'}, (∀ r ∈ rs, goodRoom r) → roomsL (rs.map roomT) = some ((rs.map roomT).map roomF)
  | [], _ => rfl
  | r :: rs, h => by
    rw [List.map_cons, List.map_cons]
    unfold roomsL
    rw [roomL_of (h r (List.mem_cons_self ..)), roomsL_of fun x hx => h x (List.mem_cons_of_mem _ hx)]
theorem readL_of {z : Str} (hz : z.length ≤ 10000) (hi : isHouseD (houseD (houseF z)) = true) (ht : houseT (houseF z) = z) : readL z = some (houseF z) := by
  obtain ⟨gd, _⟩ := houseF_good hz hi
  have e := house_split gd
  rw [ht] at e
  have e : linesF z = keysT (houseF z).1 :: (houseF z).2.map roomT := e
  have h1 := keysL_of gd.keys
  have h2 := roomsL_of gd.rooms
  unfold readL
  rw [e]
  dsimp only
  rw [h1, h2]
  have eh : houseF z = (keysF (keysT (houseF z).1), ((houseF z).2.map roomT).map roomF) := by
    conv => lhs; unfold houseF
    rw [e]
  exact congrArg some eh.symm
/-! part p_asked51 -/
/-! what is asked of a text, and of what is no house -/
theorem asked_told {E : ExT} {d e : PyData} {P : RV → List Cell → Prop} (ne : noEx e = true) (h : ∀ (P' : RV → List Cell → Prop) (PE' : PyData → List Cell → Prop), P' (.f e) [] → TT_read_house E [.d d] [] P' PE') (q : P (.f (.tuple [.str "told", e])) []) : TT_law_asked E [.d d] [] P := by
  have szl : 2000000 < sizeLine := by decide
  (first | simp_arith [TT_law_asked, tt_law_asked] | skip)
  refine h _ _ ?_
  (first | simp_arith [onSome_some] | skip)
  exact ⟨by omega, q⟩
theorem asked_no {E : ExT} {d : PyData} {P : RV → List Cell → Prop} (h : ∀ (P' : RV → List Cell → Prop) (PE' : PyData → List Cell → Prop), PE' (errD (E.c .text) (.list [])) [] → TT_read_house E [.d d] [] P' PE') (q : P (.f (.tuple [.str "NoText", .none])) []) : TT_law_asked E [.d d] [] P := by
  have szl : 2000000 < sizeLine := by decide
  have f1 : subX .text (Str.ofString "KeyroomError") = true := by decide +kernel
  have f2 : (subX .text (Str.ofString "NoHouse") || (subX .text (Str.ofString "NoKind") || (subX .text (Str.ofString "NoNumber") || (subX .text (Str.ofString "NoOrder") || (subX .text (Str.ofString "NoPlain") || (subX .text (Str.ofString "NoRow") || (subX .text (Str.ofString "NoStep") || subX .text (Str.ofString "TooMany")))))))) = false := by decide +kernel
  have f3 : subX .text (Str.ofString "ValueError") = true := by decide +kernel
  have f4 : subX .text (Str.ofString "NoText") = true := by decide +kernel
  (first | simp_arith [TT_law_asked, tt_law_asked] | skip)
  refine h _ _ ?_
  (first | simp_arith [excP] | skip)
  exact ⟨by decide, by decide, by omega, by decide, by decide, by omega, q⟩
theorem shown_use {E : ExT} {d : PyData} {P : RV → List Cell → Prop} (hz : SzD d) (hn : isHouseD d = false) (q : P (.f (.bool true)) []) : TT_law_shown E [.d d] [] P := by
  have szl : 2000000 < sizeLine := by decide
  (first | simp_arith [TT_law_shown, tt_law_shown] | skip)
  refine show_house_no hz hn ?_
  (first | simp_arith [excP] | skip)
  exact ⟨by decide, by decide, by decide, by decide, q⟩
/-! part p_bad51 -/
/-! things that are no houses -/
def badR : List PyData := [.tuple [.list [.str "b", .str "a"], .list []], .tuple [.list [], .list []], .tuple [.list [.str "a", .str "a", .str "a", .str "a", .str "a"], .list []], .tuple [.list [.str "a"], .str "a"], .tuple [.list [.str "A"], .list []],
  .tuple [.list [.str "a"], .list [.str "abcde"]], .tuple [.str "a", .list []], .list [.str "a", .list []],
  .tuple [.list [.str "a"]], .tuple [.list [.str "a"], .list [], .int 0], .none, .tuple [.list [.str "a", .int 1], .list []]]
theorem srt_ba : srt [("b" : Str), "a"] = [("a" : Str), "b"] := (srt_eq (xs := [("b" : Str), "a"]) (ys := [("a" : Str), "b"]) (.swap _ _ _) (by decide +kernel)).symm
theorem badR_all : ∀ r ∈ badR, isRoomD r = false ∧ SzD r := by
  intro r hr
  unfold badR at hr
  simp only [List.mem_cons, List.not_mem_nil, or_false] at hr
  rcases hr with rfl | rfl | rfl | rfl | rfl | rfl | rfl | rfl | rfl | rfl | rfl | rfl
  · refine ⟨?_, by simp only [SzD, SzAll]; decide +kernel⟩
    show (areKeysD (ksD [("b" : Str), "a"]) && areKeysD (ksD []) && (decide ((1 : Int) ≤ 2) && decide ((2 : Int) ≤ 4) && decide (strsOf ([("b" : Str), "a"].map .str) = srt (strsOf ([("b" : Str), "a"].map .str))))) = false
    rw [strsOf_strs, srt_ba]
    have : decide ([("b" : Str), "a"] = [("a" : Str), "b"]) = false := by decide +kernel
    rw [this, Bool.and_false, Bool.and_false]
  all_goals
    first
      | exact ⟨by decide +kernel, by simp only [SzD, SzAll]; decide +kernel⟩
      | exact ⟨by decide +kernel, True.intro⟩
theorem badR_at {i : Nat} (h : i < 12) : ∃ r, isRoomD r = false ∧ SzD r ∧ L2.atI (badR.map AVal.d) (i : Int) = some (.d r) := by
  have e : badR[i]? = some (badR[i]'h) := List.getElem?_eq_getElem h
  obtain ⟨h1, h2⟩ := badR_all _ (List.getElem_mem h)
  exact ⟨_, h1, h2, by rw [atI_natE, List.getElem?_map, e]; rfl⟩
theorem cutD_dropX (ds : List PyData) (n : Nat) : cutD ds (some (n : Int)) none = ds.drop n := by
  unfold cutD
  rw [HT.sIx_nat, HT.sIx_none]
  by_cases h : n ≤ ds.length
  · rw [Nat.min_eq_left h]
    exact List.take_of_length_le (by rw [List.length_drop]; exact Nat.le_refl _)
  · rw [Nat.min_eq_right (by omega), List.drop_of_length_le (by omega : ds.length ≤ n), List.drop_of_length_le (Nat.le_refl _)]
    simp
def noH (h : House) (room : PyData) (at_ : Nat) : List PyData :=
  [.tuple [.list (h.1.map .str ++ [.str "A"]), .list (h.2.map roomD)], .tuple [.list (h.1.map .str ++ [.str ""]), .list (h.2.map roomD)], .tuple [.tuple (h.1.map .str), .list (h.2.map roomD)], .tuple [.list (h.1.map .str), .tuple (h.2.map roomD)],
    .tuple [.list (h.1.map .str), .none], .none, .tuple [], .tuple [.list (h.1.map .str), .list (h.2.map roomD), .int 0], .list [.list (h.1.map .str), .list (h.2.map roomD)], .list (h.1.map .str), .str "-", .int 0,
    .tuple [.list (h.2.map roomD), .list (h.1.map .str ++ [.str "a"])], .tuple [.list (h.1.map .str ++ [.str "abcde"]), .list (h.2.map roomD)]] ++
  repL 10 [.tuple [.list (h.1.map .str), .list ((h.2.take at_).map roomD ++ [room] ++ (h.2.drop at_).map roomD)]]
theorem szD_rooms {rs : List Room'} (h : ∀ r ∈ rs, SzD (roomD r)) (hl : rs.length ≤ 100000) : SzD (.list (rs.map roomD)) := ⟨by rw [List.length_map]; exact hl, szAll_of fun d m => by
  obtain ⟨r, hr, rfl⟩ := List.mem_map.mp m
  exact h r hr⟩
theorem keys_bad {ks : List Str} {x : Str} (hx : isKind x = false) : areKeysD (.list (ks.map .str ++ [.str x])) = false := by
  show (ks.map PyData.str ++ [PyData.str x]).all isKindD = false
  rw [List.all_append]
  have : [PyData.str x].all isKindD = false := by
    show (isKind x && true) = false
    rw [hx]; rfl
  rw [this, Bool.and_false]
theorem noH_all {h : House} {room : PyData} {at_ : Nat} (w : Wh h) (b1 : isRoomD room = false) (b2 : SzD room) : ∀ d ∈ noH h room at_, SzD d ∧ isHouseD d = false := by
  have hb := w.b
  have hr := w.r
  have gd := w.good
  have sk : SzD (.list (h.1.map .str)) := szD_ks gd.keys gd.few
  have sr0 : ∀ r ∈ h.2, SzD (roomD r) := fun r hr => szD_room (gd.rooms r hr) (gd.each r hr)
  have sr : SzD (.list (h.2.map roomD)) := szD_rooms sr0 gd.many
  have skx : ∀ x : Str, x.length ≤ 100000 → SzD (.list (h.1.map .str ++ [.str x])) := fun x hx => ⟨by rw [List.length_append, List.length_map]; show _ + 1 ≤ _; omega, szAll_of fun d m => by
    rcases List.mem_append.mp m with m | m
    · obtain ⟨k, hk, rfl⟩ := List.mem_map.mp m
      have := isKind_len (gd.keys k hk)
      show k.length ≤ 100000
      omega
    · rw [List.mem_singleton] at m
      subst m
      exact hx⟩
  have skt : SzD (.tuple (h.1.map .str)) := sk.2
  have srt_ : SzD (.tuple (h.2.map roomD)) := sr.2
  intro d hd
  rcases List.mem_append.mp hd with hd | hd
  · simp only [List.mem_cons, List.not_mem_nil, or_false] at hd
    rcases hd with rfl | rfl | rfl | rfl | rfl | rfl | rfl | rfl | rfl | rfl | rfl | rfl | rfl | rfl
    · exact ⟨⟨skx _ (by decide), sr, True.intro⟩, by show (areKeysD _ && _) = false; rw [keys_bad (by decide +kernel)]; rfl⟩
    · exact ⟨⟨skx _ (by decide), sr, True.intro⟩, by show (areKeysD _ && _) = false; rw [keys_bad (by decide +kernel)]; rfl⟩
    · exact ⟨⟨skt, sr, True.intro⟩, rfl⟩
    · exact ⟨⟨sk, srt_, True.intro⟩, rfl⟩
    · exact ⟨⟨sk, True.intro, True.intro⟩, rfl⟩
    · exact ⟨True.intro, rfl⟩
    · exact ⟨True.intro, rfl⟩
    · exact ⟨⟨sk, sr, True.intro, True.intro⟩, rfl⟩
    · exact ⟨⟨show 2 ≤ 100000 by decide, sk, sr, True.intro⟩, rfl⟩
    · exact ⟨sk, rfl⟩
    · exact ⟨show ("-" : Str).length ≤ 100000 by decide, rfl⟩
    · exact ⟨True.intro, rfl⟩
    · refine ⟨⟨sr, skx _ (by decide), True.intro⟩, ?_⟩
      show (areKeysD _ && (h.1.map PyData.str ++ [PyData.str "a"]).all isRoomD) = false
      rw [List.all_append]
      have : [PyData.str "a"].all isRoomD = false := rfl
      rw [this, Bool.and_false, Bool.and_false]
    · exact ⟨⟨skx _ (by decide), sr, True.intro⟩, by show (areKeysD _ && _) = false; rw [keys_bad (by decide +kernel)]; rfl⟩
  · have hd : d = .tuple [.list (h.1.map .str), .list ((h.2.take at_).map roomD ++ [room] ++ (h.2.drop at_).map roomD)] := by
      unfold repL at hd
      obtain ⟨l, hl, hd⟩ := List.mem_flatten.mp hd
      rw [(List.mem_replicate.mp hl).2, List.mem_singleton] at hd
      exact hd
    subst hd
    refine ⟨⟨sk, ⟨?_, szAll_of fun d m => ?_⟩, True.intro⟩, ?_⟩
    · rw [List.length_append, List.length_append, List.length_map, List.length_map, List.length_take, List.length_drop]
      show _ + 1 + _ ≤ _
      omega
    · rcases List.mem_append.mp m with m | m
      · rcases List.mem_append.mp m with m | m
        · obtain ⟨r, hr, rfl⟩ := List.mem_map.mp m
          exact sr0 r (List.mem_of_mem_take hr)
        · rw [List.mem_singleton] at m
          subst m
          exact b2
      · obtain ⟨r, hr, rfl⟩ := List.mem_map.mp m
        exact sr0 r (List.mem_of_mem_drop hr)
    · show (areKeysD _ && ((h.2.take at_).map roomD ++ [room] ++ (h.2.drop at_).map roomD).all isRoomD) = false
      rw [List.all_append, List.all_append]
      have : [room].all isRoomD = false := by show (isRoomD room && true) = false; rw [b1]; rfl
      rw [this, Bool.and_false, Bool.false_and, Bool.and_false]
theorem noH_at {h : House} {room : PyData} {at_ u : Nat} (w : Wh h) (b1 : isRoomD room = false) (b2 : SzD room) (hu : u < 24) : ∃ d, SzD d ∧ isHouseD d = false ∧ Option.map AVal.d (L2.atI (noH h room at_) (u : Int)) = some (.d d) := by
  have hl : (noH h room at_).length = 24 := rfl
  have e : (noH h room at_)[u]? = some ((noH h room at_)[u]'(by omega)) := List.getElem?_eq_getElem _
  obtain ⟨h1, h2⟩ := noH_all w b1 b2 _ (List.getElem_mem (show u < (noH h room at_).length by omega))
  exact ⟨_, h1, h2, by rw [atI_natE, e]; rfl⟩
theorem no_house_use {h : House} {ns : List Int} {P : RV → List Cell → Prop} (w : Wh h) (q : ∀ (d : PyData) (ns' : List Int), SzD d → isHouseD d = false → P (.f d) [.lst (ns'.map .int)]) : TT_law_no_house [.r 0, .d (houseD h)] [.lst (ns.map .int)] P := by
  have szl : 2000000 < sizeLine := by decide
  have hb := w.b
  have hr := w.r
  (first | simp_arith [TT_law_no_house, tt_law_no_house] | skip)
  repeat (with_reducible refine And.intro (by first | omega | decide | exact Or.inl ⟨by omega, by omega⟩ | exact Or.inr ⟨by omega, by omega⟩ | (constructor <;> omega) | fail) ?_)
  refine take_use (many := 12) (by decide) fun r ns1 hr12 => ?_
  obtain ⟨room, b1, b2, b3⟩ := badR_at (i := r) (by omega)
  (first | simp_arith [onSome_some] | skip)
  refine ⟨.d room, b3, ?_⟩
  (first | simp_arith [onSome_some] | skip)
  repeat (with_reducible refine And.intro (by first | omega | decide | exact Or.inl ⟨by omega, by omega⟩ | exact Or.inr ⟨by omega, by omega⟩ | (constructor <;> omega) | fail) ?_)
  refine take_use (many := (h.2.length : Int) + 1) (by omega) fun at_ ns2 hat => ?_
  have ec1 : cutD (h.2.map roomD) none (some (at_ : Int)) = (h.2.take at_).map roomD := by rw [cutD_take, List.map_take]
  have ec2 : cutD (h.2.map roomD) (some (at_ : Int)) none = (h.2.drop at_).map roomD := by rw [cutD_dropX, List.map_drop]
  have l1 : (List.take at_ h.2).length ≤ 60 := by rw [List.length_take]; omega
  have l2 : (List.drop at_ h.2).length ≤ 60 := by rw [List.length_drop]; omega
  (first | simp_arith [ec1, ec2] | skip)
  refine ⟨by omega, by omega, by rw [List.length_append, List.length_map]; show _ + 1 + _ ≤ _; omega, by omega, by omega, ⟨by decide, by decide, by decide +kernel⟩, ?_, ?_⟩
  · show 14 + 10 ≤ sizeLine
    omega
  refine take_use (many := 24) (by decide) fun u ns3 hu => ?_
  obtain ⟨d, hd1, hd2, hd3⟩ := noH_at w b1 b2 (at_ := at_) (u := u) (by omega)
  (first | simp_arith [onSome_some] | skip)
  refine ⟨_, hd3, ?_⟩
  (first | simp_arith [onSome_some] | skip)
  exact q d ns3 hd1 hd2
/-! part p_chg51 -/
/-! texts changed -/
def Sg : Str := " +:-abkz09AZ_,;.\n\t/{=(@"
theorem sg_at {i : Nat} (h : i < 23) : ∃ c, L2.atI Sg.cps.toList (i : Int) = some c ∧ c < 1114112 := by
  have key : (decide (Sg.cps.toList.length = 23) && Sg.cps.toList.all fun c => decide (c < 1114112)) = true := by decide +kernel
  rw [Bool.and_eq_true, decide_eq_true_eq, List.all_eq_true] at key
  have e : Sg.cps.toList[i]? = some (Sg.cps.toList[i]'(by omega)) := List.getElem?_eq_getElem _
  exact ⟨_, by rw [atI_natE]; exact e, of_decide_eq_true (key.2 _ (List.getElem_mem _))⟩
theorem wd_sign {c : Nat} (h : c < 1114112) : Wd 1 ⟨#[c]⟩ := ⟨Nat.le_refl 1, fun x hx => by
  have : x = c := by simpa using hx
  omega⟩
def W8 : List Str := [" ", "\n", "\n\n", "\na: -", "\n-", " a", "+a", ":"]
def W6 : List Str := [" ", "-", "\n", "a: -\n", "- ", "a "]
theorem cut_size (z : Str) (lo hi : Option Int) : (cutS z lo hi).length ≤ HT.sIx z.length z.length hi - HT.sIx z.length 0 lo := by
  show (((z.cps.toList.drop (HT.sIx z.length 0 lo)).take (HT.sIx z.length z.length hi - HT.sIx z.length 0 lo)).toArray).size ≤ _
  rw [List.size_toArray, List.length_take]
  exact Nat.min_le_left _ _
theorem cutHi_len (z : Str) (a : Nat) : (cutS z none (some (a : Int))).length ≤ a := by
  have := cut_size z none (some (a : Int))
  rw [HT.sIx_nat, HT.sIx_none] at this
  omega
theorem cutLo_len (z : Str) (a : Nat) : (cutS z (some (a : Int)) none).length ≤ z.length - a := by
  have := cut_size z (some (a : Int)) none
  rw [HT.sIx_nat, HT.sIx_none] at this
  omega
theorem cutMid_len (z : Str) (a b : Nat) : (cutS z (some (a : Int)) (some (b : Int))).length ≤ b - a := by
  have := cut_size z (some (a : Int)) (some (b : Int))
  rw [HT.sIx_nat, HT.sIx_nat] at this
  omega
theorem Wd.txt {n : Nat} {z : Str} (h : Wd n z) : TxtOk z := h.2
theorem wd_len {n : Nat} {z : Str} (h : z.length ≤ n) (t : TxtOk z) : Wd n z := ⟨h, t⟩
theorem changed_use {n : Nat} {z : Str} {ns : List Int} {P : RV → List Cell → Prop} (hz : Wd n z) (hn : n ≤ 100000) (q : ∀ (z' : Str) (ns' : List Int), Wd (n + 10) z' → P (.f (.str z')) [.lst (ns'.map .int)]) : TT_law_changed [.d (.str z), .r 0] [.lst (ns.map .int)] P := by
  have szl : 2000000 < sizeLine := by decide
  have hl := hz.1
  have sl : (Str.ofString " +:-abkz09AZ_,;.\n\t/{=(@").length = 23 := by decide +kernel
  (first | simp_all_arith! [TT_law_changed, tt_law_changed] | skip)
  refine take_use (many := 64) (by decide) fun a ns1 ha => ?_
  (first | simp_all_arith! [onSome_some] | skip)
  refine take_use (many := 64) (by decide) fun b ns2 hb => ?_
  (first | simp_all_arith! [onSome_some] | skip)
  refine ⟨.inl ⟨by omega, by omega⟩, by omega, by omega, ?_⟩
  obtain ⟨at_, hat, hatl⟩ : ∃ at_ : Nat, ((a : Int) + 64 * (b : Int)) % ((z.length : Int) + 1) = (at_ : Int) ∧ at_ ≤ z.length := by
    have h0 := Int.emod_nonneg ((a : Int) + 64 * (b : Int)) (show (z.length : Int) + 1 ≠ 0 by omega)
    have h1 := Int.emod_lt_of_pos ((a : Int) + 64 * (b : Int)) (show 0 < (z.length : Int) + 1 by omega)
    exact ⟨(((a : Int) + 64 * (b : Int)) % ((z.length : Int) + 1)).toNat, by omega, by omega⟩
  rw [hat]
  refine take_use (many := 23) (by decide) fun r ns3 hr => ?_
  obtain ⟨c, hc, hcl⟩ := sg_at (i := r) (by omega)
  have hc : L2.atI (Str.ofString " +:-abkz09AZ_,;.\n\t/{=(@").cps.toList (r : Int) = some c := hc
  (first | simp_all_arith! [hc] | skip)
  refine ⟨by omega, ?_⟩
  refine take_use (many := 7) (by decide) fun w ns4 hw => ?_
  (first | simp_all_arith! [onSome_some] | skip)
  have hcut : ∀ lo hi, TxtOk (cutS z lo hi) := fun lo hi => (cut_wd (lo := lo) (hi := hi) hz).2
  have tapp : ∀ {x y : Str}, TxtOk x → TxtOk y → TxtOk (x ++ y) := fun hx hy => (Wd.app ⟨Nat.le_refl _, hx⟩ ⟨Nat.le_refl _, hy⟩).2
  have tc : TxtOk ⟨#[c]⟩ := (wd_sign hcl).2
  have lc : ({ cps := #[c] } : Str).length = 1 := rfl
  have h1 := cutHi_len z at_
  have h2 := cutLo_len z (at_ + 1)
  have h3 := cutLo_len z at_
  have h4 := cutLo_len z (at_ + 2)
  have h5 := cutMid_len z at_ (at_ + 2)
  have h6 := cutMid_len z at_ (at_ + 4)
  have e1 : (at_ : Int) + 1 = ((at_ + 1 : Nat) : Int) := by omega
  have e2 : (at_ : Int) + 2 = ((at_ + 2 : Nat) : Int) := by omega
  have e4 : (at_ : Int) + 4 = ((at_ + 4 : Nat) : Int) := by omega
  refine cutA (fun s => s = ⟨[some (.d (.str z)), some (.r 0), some (.d (.int (at_ : Int))), some (.d (.str ⟨#[c]⟩)), some (.d (.int (w : Int)))], [.lst (ns4.map .int)]⟩ ∧ 1 ≤ w) (fun M hM => ?_) ?_
  · by_cases hw0 : (w : Int) = 0
    · have d : decide ((w : Int) = 0) = true := decide_eq_true hw0
      (first | simp_arith [d, e1] | skip)
      exact ⟨by omega, by omega, by omega, q _ _ (wd_len (by rw [Str.length_append]; omega) (tapp (hcut _ _) (hcut _ _)))⟩
    · have d : decide ((w : Int) = 0) = false := decide_eq_false hw0
      (first | simp_arith [d] | skip)
      exact hM _ ⟨rfl, by omega⟩
  rintro s' ⟨rfl, hw1⟩
  have e5 : (at_ : Int) + (w : Int) - 1 = ((at_ + (w - 1) : Nat) : Int) := by omega
  have h7 := cutLo_len z (at_ + (w - 1))
  refine cutA (fun s => s = ⟨[some (.d (.str z)), some (.r 0), some (.d (.int (at_ : Int))), some (.d (.str ⟨#[c]⟩)), some (.d (.int (w : Int)))], [.lst (ns4.map .int)]⟩ ∧ 3 ≤ w) (fun M hM => ?_) ?_
  · by_cases hw0 : (w : Int) < 3
    · have d : decide ((w : Int) < 3) = true := decide_eq_true hw0
      (first | simp_arith [d, e5] | skip)
      exact ⟨by omega, by omega, by omega, by rw [Str.length_append]; omega, q _ _ (wd_len (by rw [Str.length_append, Str.length_append]; omega) (tapp (tapp (hcut _ _) tc) (hcut _ _)))⟩
    · have d : decide ((w : Int) < 3) = false := decide_eq_false hw0
      (first | simp_arith [d] | skip)
      exact hM _ ⟨rfl, by omega⟩
  rintro s' ⟨rfl, hw3⟩
  refine cutA (fun s => s = ⟨[some (.d (.str z)), some (.r 0), some (.d (.int (at_ : Int))), some (.d (.str ⟨#[c]⟩)), some (.d (.int (w : Int)))], [.lst (ns4.map .int)]⟩) (fun M hM => ?_) ?_
  · by_cases hw0 : (w : Int) = 3
    · have d : decide ((w : Int) = 3) = true := decide_eq_true hw0
      have hrl := revT_len (cutS z (some (at_ : Int)) (some ((at_ + 2 : Nat) : Int)))
      (first | simp_arith [d, e2, revS] | skip)
      exact ⟨by omega, by omega, by omega, by omega, by omega, by rw [Str.length_append]; omega, q _ _ (wd_len (by rw [Str.length_append, Str.length_append]; omega) (tapp (tapp (hcut _ _) fun c hc => hcut _ _ c (revT_mem hc)) (hcut _ _)))⟩
    · have d : decide ((w : Int) = 3) = false := decide_eq_false hw0
      (first | simp_arith [d] | skip)
      exact hM _ rfl
  rintro s' rfl
  refine cutA (fun s => s = ⟨[some (.d (.str z)), some (.r 0), some (.d (.int (at_ : Int))), some (.d (.str ⟨#[c]⟩)), some (.d (.int (w : Int)))], [.lst (ns4.map .int)]⟩) (fun M hM => ?_) ?_
  · by_cases hw0 : (w : Int) = 4
    · have d : decide ((w : Int) = 4) = true := decide_eq_true hw0
      (first | simp_arith [d, e4] | skip)
      exact ⟨by omega, by omega, by omega, by omega, by rw [Str.length_append]; omega, q _ _ (wd_len (by rw [Str.length_append, Str.length_append]; omega) (tapp (tapp (hcut _ _) (hcut _ _)) (hcut _ _)))⟩
    · have d : decide ((w : Int) = 4) = false := decide_eq_false hw0
      (first | simp_arith [d] | skip)
      exact hM _ rfl
  rintro s' rfl
  refine cutA (fun s => s = ⟨[some (.d (.str z)), some (.r 0), some (.d (.int (at_ : Int))), some (.d (.str ⟨#[c]⟩)), some (.d (.int (w : Int)))], [.lst (ns4.map .int)]⟩) (fun M hM => ?_) ?_
  · by_cases hw0 : (w : Int) = 5
    · have d : decide ((w : Int) = 5) = true := decide_eq_true hw0
      (first | simp_arith [d] | skip)
      refine ⟨by omega, take_use (many := 8) (by decide) fun u ns5 hu => ?_⟩
      obtain ⟨y, hy, ey⟩ := pickW (L := W8) (n := 5) (by decide +kernel) (i := (u : Int)) (by omega) (by show (u : Int) < 8; omega)
      have ey : L2.atI [PyData.str (Str.ofString " "), .str (Str.ofString "\n"), .str (Str.ofString "\n\n"), .str (Str.ofString "\na: -"), .str (Str.ofString "\n-"), .str (Str.ofString " a"), .str (Str.ofString "+a"), .str (Str.ofString ":")] (u : Int) = some (.str y) := ey
      (first | simp_arith [ey] | skip)
      have hyl := hy.1
      exact ⟨by omega, q _ _ ((hz.app hy).le (by omega))⟩
    · have d : decide ((w : Int) = 5) = false := decide_eq_false hw0
      (first | simp_arith [d] | skip)
      exact hM _ rfl
  rintro s' rfl
  (first | simp_arith [onSome_some] | skip)
  refine ⟨by omega, take_use (many := 6) (by decide) fun u ns5 hu => ?_⟩
  obtain ⟨y, hy, ey⟩ := pickW (L := W6) (n := 5) (by decide +kernel) (i := (u : Int)) (by omega) (by show (u : Int) < 6; omega)
  have ey : L2.atI [PyData.str (Str.ofString " "), .str (Str.ofString "-"), .str (Str.ofString "\n"), .str (Str.ofString "a: -\n"), .str (Str.ofString "- "), .str (Str.ofString "a ")] (u : Int) = some (.str y) := ey
  (first | simp_arith [ey] | skip)
  have hyl := hy.1
  exact ⟨by omega, q _ _ ((hy.app hz).le (by omega))⟩
/-! lines changed -/
theorem join_sumX {sep : Str} : ∀ (W : List Str), (W.map (·.length)).sum + (W.length - 1) * sep.length ≤ (Str.join sep W).length
  | [] => by simp
  | [x] => by simp [Str.join]
  | x :: y :: r => by
    have ih := join_sumX (sep := sep) (y :: r)
    rw [join_cons, Str.length_append, Str.length_append]
    simp only [List.map_cons, List.sum_cons, List.length_cons, Nat.add_sub_cancel] at ih ⊢
    rw [Nat.add_mul, Nat.one_mul]
    omega
def LinesOk (m : Nat) (W : List Str) : Prop := (W.map (·.length)).sum + W.length ≤ m ∧ ∀ w ∈ W, TxtOk w
theorem join_wd {m : Nat} {sep : Str} {W : List Str} (h : LinesOk m W) (hs : sep.length = 1) (ht : TxtOk sep) : Wd m (Txt.join sep W) := by
  refine ⟨?_, fun c hc => ?_⟩
  · rw [txt_join]
    have := StrLaws.join_length_le sep W
    rw [hs] at this
    have := h.1
    omega
  · rw [txt_join] at hc
    rcases mem_join hc with z | ⟨x, hx, z⟩
    · exact ht c z
    · exact h.2 x hx c z
theorem LinesOk.le {m k : Nat} {W : List Str} (h : LinesOk m W) (hk : m ≤ k) : LinesOk k W := ⟨Nat.le_trans h.1 hk, h.2⟩
theorem LinesOk.app {m k : Nat} {V W : List Str} (h : LinesOk m V) (g : LinesOk k W) : LinesOk (m + k) (V ++ W) := by
  refine ⟨?_, fun w hw => ?_⟩
  · rw [List.map_append, List.sum_append, List.length_append]
    have := h.1
    have := g.1
    omega
  · rcases List.mem_append.mp hw with hw | hw
    · exact h.2 w hw
    · exact g.2 w hw
theorem LinesOk.cut {m : Nat} {V W : List Str} (h : LinesOk m (V ++ W)) : LinesOk m V ∧ LinesOk m W := by
  obtain ⟨h1, h2⟩ := h
  rw [List.map_append, List.sum_append, List.length_append] at h1
  exact ⟨⟨by omega, fun w hw => h2 w (List.mem_append_left _ hw)⟩, ⟨by omega, fun w hw => h2 w (List.mem_append_right _ hw)⟩⟩
theorem LinesOk.take {m : Nat} {W : List Str} (h : LinesOk m W) (i : Nat) : LinesOk m (W.take i) := (LinesOk.cut (V := W.take i) (W := W.drop i) (by rw [List.take_append_drop]; exact h)).1
theorem LinesOk.drop {m : Nat} {W : List Str} (h : LinesOk m W) (i : Nat) : LinesOk m (W.drop i) := (LinesOk.cut (V := W.take i) (W := W.drop i) (by rw [List.take_append_drop]; exact h)).2
theorem LinesOk.one {m : Nat} {x : Str} (h : Wd m x) : LinesOk (m + 1) [x] := ⟨by have := h.1; simp; omega, fun w hw => by rw [List.mem_singleton] at hw; subst hw; exact h.2⟩
theorem set_eq_app {α : Type} : ∀ {W : List α} {i : Nat} (y : α), i < W.length → W.set i y = W.take i ++ [y] ++ W.drop (i + 1)
  | _ :: _, 0, _, _ => rfl
  | x :: W, i + 1, y, h => by
    have := set_eq_app (W := W) (i := i) y (by simpa using h)
    rw [List.set_cons_succ, this]
    rfl
theorem LinesOk.set {m k : Nat} {W : List Str} {i : Nat} {y : Str} (h : LinesOk m W) (hi : i < W.length) (hy : Wd k y) : LinesOk (m + k + 1) (W.set i y) := by
  have e : W = W.take i ++ W[i] :: W.drop (i + 1) := by rw [← List.drop_eq_getElem_cons hi, List.take_append_drop]
  have h1 : (W.map (·.length)).sum = ((W.take i).map (·.length)).sum + (W[i].length + ((W.drop (i + 1)).map (·.length)).sum) := by
    conv => lhs; rw [e]
    rw [List.map_append, List.sum_append, List.map_cons, List.sum_cons]
  have h2 : W.length = (W.take i).length + ((W.drop (i + 1)).length + 1) := by
    conv => lhs; rw [e]
    rw [List.length_append, List.length_cons]
  have h3 := h.1
  have h4 := hy.1
  rw [set_eq_app y hi]
  refine ⟨?_, fun w hw => ?_⟩
  · rw [List.map_append, List.sum_append, List.map_append, List.sum_append, List.length_append, List.length_append, List.map_cons, List.map_nil, List.sum_cons, List.sum_nil, List.length_singleton]
    omega
  · rcases List.mem_append.mp hw with hw | hw
    · rcases List.mem_append.mp hw with hw | hw
      · exact h.2 w (List.mem_of_mem_take hw)
      · rw [List.mem_singleton] at hw; subst hw; exact hy.2
    · exact h.2 w (List.mem_of_mem_drop hw)
theorem split_ok {n : Nat} {x sep : Str} (h : Wd n x) (hs : sep.length = 1) : LinesOk (n + 1) (Txt.split x sep) := by
  refine ⟨?_, fun w hw => TxtOk.part h.2 hw⟩
  have hj := join_sumX (sep := sep) (Txt.split x sep)
  have e : Str.join sep (Txt.split x sep) = x := by rw [← txt_join, txt_join, StrLaws.join_split]
  rw [e, hs, Nat.mul_one] at hj
  have := h.1
  obtain ⟨w, r, hw⟩ := split_cons x sep
  rw [hw] at hj ⊢
  rw [List.length_cons] at hj ⊢
  omega
theorem ixN_at {n j : Nat} (h : j < n) : L2.ixN n (j : Int) = some j := by
  unfold L2.ixN
  rw [if_pos (by omega), if_pos (by omega), Int.toNat_natCast]
theorem cutD_dropC (ds : List PyData) (n : Nat) : cutD ds (some (n : Int)) none = ds.drop n := by
  unfold cutD
  rw [HT.sIx_nat, HT.sIx_none]
  by_cases h : n ≤ ds.length
  · rw [Nat.min_eq_left h]
    exact List.take_of_length_le (by rw [List.length_drop]; exact Nat.le_refl _)
  · rw [Nat.min_eq_right (by omega), List.drop_of_length_le (by omega : ds.length ≤ n), List.drop_of_length_le (Nat.le_refl _)]
    simp
def W5 : List Str := ["-", "a", "zzzz", "zzzzz", ""]
theorem lines_changed_use {n : Nat} {z : Str} {ns : List Int} {P : RV → List Cell → Prop} (hz : Wd n z) (hn : n ≤ 100000) (q : ∀ (z' : Str) (ns' : List Int), Wd (n + n + 20) z' → P (.f (.str z')) [.lst (ns'.map .int)]) : TT_law_lines_changed [.d (.str z), .r 0] [.lst (ns.map .int)] P := by
  have szl : 2000000 < sizeLine := by decide
  have hl := hz.1
  have hm := split_many (x := z) (sep := "\n") (by decide)
  have lo := split_ok (sep := "\n") hz rfl
  have hnl : ((Str.ofString "\n").length == 0) = false := rfl
  have hbl : ((Str.ofString " ").length == 0) = false := rfl
  obtain ⟨w0, wr, hw0⟩ := split_cons z "\n"
  generalize hW : Txt.split z (Str.ofString "\n") = W
  have hm : W.length ≤ z.length + 1 := hW ▸ hm
  have lo : LinesOk (n + 1) W := hW ▸ lo
  have hpos : 0 < W.length := by
    have : Txt.split z (Str.ofString "\n") = w0 :: wr := hw0
    rw [← hW, this]; simp
  (first | simp_all_arith! [TT_law_lines_changed, tt_law_lines_changed, splitN, hW, hnl] | skip)
  refine ⟨by omega, ?_⟩
  refine take_use (many := (W.length : Int)) (by omega) fun at_ ns1 hat => ?_
  have hat : at_ < W.length := by omega
  obtain ⟨l, hlw⟩ : ∃ l, W[at_]? = some l := ⟨_, List.getElem?_eq_getElem hat⟩
  have hla : L2.atI W (at_ : Int) = some l := by rw [atI_natE]; exact hlw
  have hlm := List.mem_of_getElem? hlw
  have hll : l.length ≤ z.length := (split_part (sep := "\n") (hW ▸ hlm)).1
  have lwd : Wd n l := ⟨by omega, lo.2 l hlm⟩
  (first | simp_all_arith! [hla, hbl] | skip)
  refine ⟨by omega, ?_⟩
  refine take_use (many := 6) (by decide) fun w ns2 hw => ?_
  (first | simp_all_arith! [onSome_some] | skip)
  have e1 : (at_ : Int) + 1 = ((at_ + 1 : Nat) : Int) := by omega
  have c1 : cutD (W.map PyData.str) none (some (at_ : Int)) = (W.take at_).map .str := by rw [cutD_take, List.map_take]
  have c2 : cutD (W.map PyData.str) none (some ((at_ + 1 : Nat) : Int)) = (W.take (at_ + 1)).map .str := by rw [cutD_take, List.map_take]
  have c3 : cutD (W.map PyData.str) (some (at_ : Int)) none = (W.drop at_).map .str := by rw [cutD_dropC, List.map_drop]
  have c4 : cutD (W.map PyData.str) (some ((at_ + 1 : Nat) : Int)) none = (W.drop (at_ + 1)).map .str := by rw [cutD_dropC, List.map_drop]
  have hix : L2.ixN W.length (at_ : Int) = some at_ := ixN_at hat
  have hset : ∀ y : Str, (W.map PyData.str).set at_ (.str y) = (W.set at_ y).map .str := fun y => by rw [List.map_set]
  have wl : ∀ i, (W.take i).length ≤ W.length := fun i => by rw [List.length_take]; exact Nat.min_le_right _ _
  have dl : ∀ i, (W.drop i).length ≤ W.length := fun i => by rw [List.length_drop]; exact Nat.sub_le _ _
  have t1 := wl at_
  have t2 := wl (at_ + 1)
  have t3 := dl at_
  have t4 := dl (at_ + 1)
  refine cutA (fun s => ∃ V, LinesOk (n + n + 20) V ∧ (s = ⟨[some (.d (.str z)), some (.r 0), some (.r 1), some (.d (.int (at_ : Int))), some (.d (.list ((Txt.split l (Str.ofString " ")).map .str))), some (.d (.int (w : Int)))], [.lst (ns2.map .int), .lst (V.map .str)]⟩ ∨ (∃ ms : List Int, s = ⟨[some (.d (.str z)), some (.r 0), some (.r 1), some (.d (.int (at_ : Int))), some (.d (.list ((Txt.split l (Str.ofString " ")).map .str))), some (.d (.int (w : Int)))], [.lst (ms.map .int), .lst (V.map .str)]⟩) ∨ ∃ X, s = ⟨[some (.d (.str z)), some (.r 0), some (.r 2), some (.d (.int (at_ : Int))), some (.d (.list ((Txt.split l (Str.ofString " ")).map .str))), some (.d (.int (w : Int)))], [.lst (ns2.map .int), X, .lst (V.map .str)]⟩)) (fun M hM => ?_) ?_
  · by_cases h0 : (w : Int) = 0
    · have d : decide ((w : Int) = 0) = true := decide_eq_true h0
      (first | simp_arith [d, e1, c1, c4] | skip)
      exact ⟨by omega, hM _ ⟨W.take at_ ++ W.drop (at_ + 1), ((lo.take at_).app (lo.drop (at_ + 1))).le (by omega), .inr (.inr ⟨_, by rw [List.map_append]⟩)⟩⟩
    have d0 : decide ((w : Int) = 0) = false := decide_eq_false h0
    by_cases h1 : (w : Int) = 1
    · have d : decide ((w : Int) = 1) = true := decide_eq_true h1
      (first | simp_arith [d0, d, e1, c2, c3] | skip)
      exact ⟨by omega, hM _ ⟨W.take (at_ + 1) ++ W.drop at_, ((lo.take (at_ + 1)).app (lo.drop at_)).le (by omega), .inr (.inr ⟨_, by rw [List.map_append]⟩)⟩⟩
    have d1 : decide ((w : Int) = 1) = false := decide_eq_false h1
    by_cases h2 : (w : Int) = 2
    · have d : decide ((w : Int) = 2) = true := decide_eq_true h2
      (first | simp_arith [d0, d1, d, hix, hset] | skip)
      have lw := split_ok (sep := " ") lwd rfl
      have lr : LinesOk (n + 1) (Txt.split l (Str.ofString " ")).reverse := ⟨by rw [List.map_reverse, List.sum_reverse, List.length_reverse]; exact lw.1, fun w hw => lw.2 w (List.mem_reverse.mp hw)⟩
      have yw : Wd (n + 1) (Txt.join (Str.ofString " ") (Txt.split l (Str.ofString " ")).reverse) := join_wd lr rfl (wd_of (n := 1) (by decide +kernel)).2
      rw [← List.map_reverse, strs?_map, onSome_some]
      refine ⟨?_, hM _ ⟨_, (lo.set hat yw).le (by omega), .inl rfl⟩⟩
      rw [show (Str.ofString " ").length = 1 from rfl]
      have := lr.1
      omega
    have d2 : decide ((w : Int) = 2) = false := decide_eq_false h2
    by_cases h3 : (w : Int) = 3
    · have d : decide ((w : Int) = 3) = true := decide_eq_true h3
      (first | simp_arith [d0, d1, d2, d, hla, hix, hset, repl1A] | skip)
      refine ⟨by rw [show (Str.ofString "+k+k+k: ").length = 8 from rfl]; omega, hM _ ⟨_, (lo.set hat (repl1_wd (y := Str.ofString ": ") lwd (wd_of (n := 8) (z := Str.ofString "+k+k+k: ") (by decide +kernel)))).le (by omega), .inl rfl⟩⟩
    have d3 : decide ((w : Int) = 3) = false := decide_eq_false h3
    by_cases h4 : (w : Int) = 4
    · have d : decide ((w : Int) = 4) = true := decide_eq_true h4
      (first | simp_arith [d0, d1, d2, d3, d, hla, hix, hset] | skip)
      refine ⟨by rw [show (Str.ofString " ").length = 1 from rfl]; omega, by omega, ?_⟩
      refine take_use (many := 5) (by decide) fun u ns3 hu => ?_
      obtain ⟨y, hy, ey⟩ := pickW (L := W5) (n := 5) (by decide +kernel) (i := (u : Int)) (by omega) (by show (u : Int) < 5; omega)
      have ey : L2.atI [PyData.str (Str.ofString "-"), .str (Str.ofString "a"), .str (Str.ofString "zzzz"), .str (Str.ofString "zzzzz"), .str (Str.ofString "")] (u : Int) = some (.str y) := ey
      have hyl := hy.1
      have yw : Wd (n + 1 + 5) (l ++ Str.ofString " " ++ y) := (lwd.app (wd_of (n := 1) (by decide +kernel))).app hy
      (first | simp_arith [ey, hix, hset] | skip)
      refine ⟨by rw [Str.length_append, show (Str.ofString " ").length = 1 from rfl]; omega, hM _ ⟨_, (lo.set hat yw).le (by omega), .inr (.inl ⟨ns3, rfl⟩)⟩⟩
    have d4 : decide ((w : Int) = 4) = false := decide_eq_false h4
    (first | simp_arith [d0, d1, d2, d3, d4, hla, hix, hset, repl1A] | skip)
    refine ⟨by rw [show (Str.ofString " ").length = 1 from rfl]; omega, hM _ ⟨_, (lo.set hat (repl1_wd (y := Str.ofString "+") lwd (wd_of (n := 1) (z := Str.ofString " ") (by decide +kernel)))).le (by omega), .inl rfl⟩⟩
  have fin : ∀ (V : List Str) (ms : List Int), LinesOk (n + n + 20) V → (V.map (·.length)).sum + V.length * (Str.ofString "\n").length ≤ 16777216 ∧ P (.f (.str (Txt.join (Str.ofString "\n") V))) [.lst (ms.map .int)] := fun V ms hV =>
    ⟨by rw [show (Str.ofString "\n").length = 1 from rfl]; have := hV.1; omega, q _ _ (join_wd hV rfl (wd_of (n := 1) (by decide +kernel)).2)⟩
  rintro s' ⟨V, hV, rfl | ⟨ms, rfl⟩ | ⟨X, rfl⟩⟩
  · (first | simp_arith [onSome_some] | skip)
    exact fin V _ hV
  · (first | simp_arith [onSome_some] | skip)
    exact fin V _ hV
  · (first | simp_arith [onSome_some] | skip)
    exact fin V _ hV
/-! odd texts -/
def Odd1 : List Str := [
  "",
  " ",
  "-",
  "--",
  "- ",
  "-\n",
  "-\n\n",
  "a",
  "a b",
  "b a",
  "a  b",
  "a a",
  "abcde",
  "A",
  "a-",
  "- a",
  "a -",
  "-\na: -",
  "-\na:-",
  "-\na : -",
  "-\na+b: -"]
def Odd2 : List Str := [
  "-\nb+a: -",
  "-\na+a: a a",
  "-\na+: -",
  "-\n+a: -",
  "-\n: -",
  "-\n-: -",
  "-\na",
  "-\na: ",
  "-\na:",
  "-\na: b a",
  "-\na: -\n",
  "-\na+b+c+d: -",
  "a: -",
  "-\na+b+c+d+e: -",
  "-\na: - -",
  "-\na: b: c",
  "-; a: -",
  "none",
  "-\nA: -",
  "-\na b: -"]
def Odd : List Str := Odd1 ++ Odd2
theorem odd_use {i : Int} {P : RV → List Cell → Prop} (q : ∀ z, Wd 100 z → P (.f (.str z)) []) : TT_law_odd [.d (.int i)] [] P := by
  have szl : 2000000 < sizeLine := by decide
  obtain ⟨y, hy, ey⟩ := pickW (L := Odd) (n := 100) (by decide +kernel) (i := i % 41) (by omega) (by show i % 41 < 41; omega)
  (first | simp_arith [TT_law_odd, tt_law_odd] | skip)
  repeat (with_reducible refine And.intro (by first | omega | decide | exact Or.inl ⟨by omega, by omega⟩ | exact Or.inr ⟨by omega, by omega⟩ | (constructor <;> omega) | fail) ?_)
  refine ⟨_, show Option.map AVal.d (L2.atI (Odd.map PyData.str) (i % 41)) = some (.d (.str y)) by rw [ey]; rfl, ?_⟩
  (first | simp_arith [onSome_some] | skip)
  exact q y hy
/-! part p_alike51 -/
/-! likeness -/
theorem kit_ss : kitB "str" "str" = some true := by decide +kernel
theorem kit_st : kitB "str" "tuple" = some false := by decide +kernel
theorem kit_sl : kitB "str" "list" = some false := by decide +kernel
theorem kit_tt : kitB "tuple" "tuple" = some true := by decide +kernel
theorem kit_tl : kitB "tuple" "list" = some false := by decide +kernel
theorem kit_lt : kitB "list" "tuple" = some false := by decide +kernel
theorem kit_ll : kitB "list" "list" = some true := by decide +kernel
theorem noneV_tX {ds : List PyData} : noneV (.d (.tuple ds)) = some false := rfl
theorem noneV_sX {x : Str} : noneV (.d (.str x)) = some false := rfl
theorem filter_ff {α β : Type} (xs : List α) (f : α → β) : ((xs.filter fun _ => false).map f) = [] := by rw [List.filter_eq_nil_iff.mpr fun _ _ => Bool.false_ne_true]; rfl
theorem alike_s0 {x : Str} {P : RV → List Cell → Prop} (q : P (.f (.bool true)) []) : TT_law_alike_r0 [.d (.str x), .d (.str x)] [] P := by
  (first | simp_arith [TT_law_alike_r0, tt_law_alike_r0, kit_ss, kit_st, kit_sl, noneV_sX] | skip)
  exact q
theorem alike_l1 {xs : List Str} {P : RV → List Cell → Prop} (hl : xs.length ≤ 100000) (q : P (.f (.bool true)) []) : TT_law_alike_r1 [.d (.list (xs.map .str)), .d (.list (xs.map .str))] [] P := by
  have szl : 2000000 < sizeLine := by decide
  (first | simp_arith [TT_law_alike_r1, tt_law_alike_r1, kit_lt, kit_ll] | skip)
  rw [intsD_natE]
  refine ⟨by omega, by omega, ?_⟩
  refine lcW_map trivial (fun k : Nat => PyData.int (k : Int)) (fun _ => false) (fun k : Nat => PyData.int (k : Int)) (fun k hk R1 R2 h1 h2 => ?_) ?_
  · have hk : k < xs.length := List.mem_range.mp hk
    have ha : L2.atI xs (k : Int) = some (xs[k]'hk) := by rw [atI_natE]; exact List.getElem?_eq_getElem hk
    (first | simp_arith [ha] | skip)
    refine alike_s0 ?_
    (first | simp_arith [onSome_some] | skip)
    exact h2 rfl
  (first | simp_arith [filter_ff] | skip)
  exact q
theorem alike_s2 {x : Str} {P : RV → List Cell → Prop} (q : P (.f (.bool true)) []) : TT_law_alike_r2 [.d (.str x), .d (.str x)] [] P := by
  (first | simp_arith [TT_law_alike_r2, tt_law_alike_r2, kit_ss, kit_st, kit_sl, noneV_sX] | skip)
  exact q
theorem two_0 {α : Type} (a b : α) : L2.atI [a, b] ((0 : Nat) : Int) = some a := rfl
theorem two_1 {α : Type} (a b : α) : L2.atI [a, b] ((1 : Nat) : Int) = some b := rfl
theorem alike_t2 {r : Room'} (h1 : r.1.length ≤ 100000) (h2 : r.2.length ≤ 100000) {P : RV → List Cell → Prop} (q : P (.f (.bool true)) []) : TT_law_alike_r2 [.d (roomD r), .d (roomD r)] [] P := by
  have szl : 2000000 < sizeLine := by decide
  (first | simp_arith [TT_law_alike_r2, tt_law_alike_r2, kit_tt, kit_tl, kit_lt, kit_ll, noneV_tX] | skip)
  rw [show intsD 0 ((1 + 1 : Nat) : Int) = (List.range 2).map fun k : Nat => PyData.int (k : Int) from intsD_natE 2]
  refine ⟨by omega, by omega, ?_⟩
  refine lcW_map trivial (fun k : Nat => PyData.int (k : Int)) (fun _ => false) (fun k : Nat => PyData.int (k : Int)) (fun k hk R1 R2 g1 g2 => ?_) ?_
  · have hk : k < 2 := List.mem_range.mp hk
    rcases (show k = 0 ∨ k = 1 by omega) with rfl | rfl
    · (first | simp_arith [two_0] | skip)
      refine alike_l1 h1 ?_
      (first | simp_arith [onSome_some] | skip)
      exact g2 rfl
    · (first | simp_arith [two_1] | skip)
      refine alike_l1 h2 ?_
      (first | simp_arith [onSome_some] | skip)
      exact g2 rfl
  (first | simp_arith [filter_ff] | skip)
  exact q
theorem alike_l3 {xs : List Str} {P : RV → List Cell → Prop} (hl : xs.length ≤ 100000) (q : P (.f (.bool true)) []) : TT_law_alike_r3 [.d (.list (xs.map .str)), .d (.list (xs.map .str))] [] P := by
  have szl : 2000000 < sizeLine := by decide
  (first | simp_arith [TT_law_alike_r3, tt_law_alike_r3, kit_lt, kit_ll] | skip)
  rw [intsD_natE]
  refine ⟨by omega, by omega, ?_⟩
  refine lcW_map trivial (fun k : Nat => PyData.int (k : Int)) (fun _ => false) (fun k : Nat => PyData.int (k : Int)) (fun k hk R1 R2 h1 h2 => ?_) ?_
  · have hk : k < xs.length := List.mem_range.mp hk
    have ha : L2.atI xs (k : Int) = some (xs[k]'hk) := by rw [atI_natE]; exact List.getElem?_eq_getElem hk
    (first | simp_arith [ha] | skip)
    refine alike_s2 ?_
    (first | simp_arith [onSome_some] | skip)
    exact h2 rfl
  (first | simp_arith [filter_ff] | skip)
  exact q
theorem alike_h3 {xs : List Room'} {P : RV → List Cell → Prop} (hl : xs.length ≤ 100000) (hr : ∀ r ∈ xs, r.1.length ≤ 100000 ∧ r.2.length ≤ 100000) (q : P (.f (.bool true)) []) : TT_law_alike_r3 [.d (.list (xs.map roomD)), .d (.list (xs.map roomD))] [] P := by
  have szl : 2000000 < sizeLine := by decide
  (first | simp_arith [TT_law_alike_r3, tt_law_alike_r3, kit_lt, kit_ll] | skip)
  rw [intsD_natE]
  refine ⟨by omega, by omega, ?_⟩
  refine lcW_map trivial (fun k : Nat => PyData.int (k : Int)) (fun _ => false) (fun k : Nat => PyData.int (k : Int)) (fun k hk R1 R2 h1 h2 => ?_) ?_
  · have hk : k < xs.length := List.mem_range.mp hk
    have ha : L2.atI xs (k : Int) = some (xs[k]'hk) := by rw [atI_natE]; exact List.getElem?_eq_getElem hk
    (first | simp_arith [ha] | skip)
    refine alike_t2 (hr _ (List.getElem_mem hk)).1 (hr _ (List.getElem_mem hk)).2 ?_
    (first | simp_arith [onSome_some] | skip)
    exact h2 rfl
  (first | simp_arith [filter_ff] | skip)
  exact q
theorem alike_h4 {h : House} (h1 : h.1.length ≤ 100000) (h2 : h.2.length ≤ 100000) (hr : ∀ r ∈ h.2, r.1.length ≤ 100000 ∧ r.2.length ≤ 100000) {P : RV → List Cell → Prop} (q : P (.f (.bool true)) []) : TT_law_alike_r4 [.d (houseD h), .d (houseD h)] [] P := by
  have szl : 2000000 < sizeLine := by decide
  (first | simp_arith [TT_law_alike_r4, tt_law_alike_r4, kit_tt, kit_tl, kit_lt, kit_ll, noneV_tX] | skip)
  rw [show intsD 0 ((1 + 1 : Nat) : Int) = (List.range 2).map fun k : Nat => PyData.int (k : Int) from intsD_natE 2]
  refine ⟨by omega, by omega, ?_⟩
  refine lcW_map trivial (fun k : Nat => PyData.int (k : Int)) (fun _ => false) (fun k : Nat => PyData.int (k : Int)) (fun k hk R1 R2 g1 g2 => ?_) ?_
  · have hk : k < 2 := List.mem_range.mp hk
    rcases (show k = 0 ∨ k = 1 by omega) with rfl | rfl
    · (first | simp_arith [two_0] | skip)
      refine alike_l3 h1 ?_
      (first | simp_arith [onSome_some] | skip)
      exact g2 rfl
    · (first | simp_arith [two_1] | skip)
      refine alike_h3 h2 hr ?_
      (first | simp_arith [onSome_some] | skip)
      exact g2 rfl
  (first | simp_arith [filter_ff] | skip)
  exact q
/-! part p_cell -/
theorem cell_use {K : PySem.W.Frag} {ns : List Int} {k : Nat} {P : RV → List Cell → Prop} (q : ∀ c : Int, P (.f (.int c)) []) : TT_law_cell_at K [.s K ns, .d (.int (k : Int))] [] P := by
  (first | simp_arith [TT_law_cell_at, tt_law_cell_at] | skip)
  split
  · rename_i h
    have h := of_decide_eq_true h
    have e : ns[k]? = some (ns[k]'(by omega)) := List.getElem?_eq_getElem (by omega)
    refine ⟨_, rfl, rfl, _, rfl, (k : Int), rfl, ns[k]'(by omega), by rw [atI_natE]; exact e, ?_⟩
    (first | simp_arith [onSome_some] | skip)
    exact q _
  · exact q 0
/-! part p_law51 -/
/-! the law -/
theorem txt_joinOk {sep : Str} {W : List Str} (hs : TxtOk sep) (h : ∀ w ∈ W, TxtOk w) : TxtOk (Txt.join sep W) := fun c hc => by
  rw [txt_join] at hc
  rcases mem_join hc with z | ⟨x, hx, z⟩
  · exact hs c z
  · exact h x hx c z
theorem txt_app {a b : Str} (h1 : TxtOk a) (h2 : TxtOk b) : TxtOk (a ++ b) := fun c hc => by
  rw [str_app] at hc
  rcases List.mem_append.mp hc with hc | hc
  · exact h1 c hc
  · exact h2 c hc
theorem txt_kind {x : Str} (h : isKind x = true) : TxtOk x := fun c hc => letters_lt c ((isKind_iff.mp h).1 c hc)
theorem txt_lit {z : Str} (h : wdB 100 z = true) : TxtOk z := (wd_of h).2
theorem txt_keys {ks : List Str} (hk : Kds ks) : TxtOk (keysT ks) := by
  unfold keysT
  split
  · exact txt_lit (by decide +kernel)
  · exact txt_joinOk (txt_lit (by decide +kernel)) fun x hx => txt_kind (hk.srt x hx)
theorem txt_room {r : Room'} (g : goodRoom r) : TxtOk (roomT r) := by
  unfold roomT
  exact txt_app (txt_app (txt_joinOk (txt_lit (by decide +kernel)) fun x hx => txt_kind (g.1 x hx)) (txt_lit (by decide +kernel))) (txt_keys g.2.1)
theorem rooms_len : ∀ {rs : List Room'}, Rms rs → ((rs.map roomT).map (·.length)).sum ≤ 70 * rs.length
  | [], _ => by simp
  | r :: rs, h => by
    have h1 := roomT_le (h.ok r (List.mem_cons_self ..))
    have h2 := h.k r (List.mem_cons_self ..)
    have ih := rooms_len (rs := rs) ⟨fun x hx => h.ok x (List.mem_cons_of_mem _ hx), fun x hx => h.k x (List.mem_cons_of_mem _ hx)⟩
    simp only [List.map_cons, List.sum_cons, List.length_cons]
    omega
theorem house_wd {h : House} (hk : Kds h.1) (hkl : h.1.length ≤ 13) (hr : Rms h.2) (hrl : h.2.length ≤ 40) : Wd 3000 (houseT h) := by
  have h1 := rooms_len hr
  have h2 := keysT_len hk
  refine ⟨?_, ?_⟩
  · unfold houseT
    rw [txt_join]
    have h3 := StrLaws.join_length_le "\n" (keysT h.1 :: h.2.map roomT)
    rw [show ("\n" : Str).length = 1 from rfl] at h3
    simp only [List.map_cons, List.sum_cons, List.length_cons, List.length_map] at h3
    show (Str.join "\n" (keysT h.1 :: h.2.map roomT)).length ≤ 3000
    omega
  · unfold houseT
    refine txt_joinOk (txt_lit (by decide +kernel)) fun x hx => ?_
    rcases List.mem_cons.mp hx with rfl | hx
    · exact txt_keys hk
    · obtain ⟨r, hr', rfl⟩ := List.mem_map.mp hx
      exact txt_room (hr.ok r hr')
/-! what is no text -/
def NoT51 : List PyData := [.none, .int 7, .list [.list [], .list []], .list [.str "-"], .bool true, .dict [], .tuple [.str "-"], .int 0, .tuple [], .tuple [.list [], .list []]]
theorem noT_all : ∀ d ∈ NoT51, NoTxt d ∧ StrOk d := by
  intro d hd
  unfold NoT51 at hd
  simp only [List.mem_cons, List.not_mem_nil, or_false] at hd
  rcases hd with rfl | rfl | rfl | rfl | rfl | rfl | rfl | rfl | rfl | rfl
  all_goals
    first
      | exact ⟨noTB_of (by decide +kernel), by decide +kernel, by decide +kernel, by decide +kernel, by decide +kernel, .inl (by decide +kernel)⟩
      | exact ⟨noTB_of (by decide +kernel), by decide +kernel, by decide +kernel, by decide +kernel, by decide +kernel, .inr rfl⟩
theorem noT_at {i : Nat} (h : i < 10) : ∃ d, NoTxt d ∧ StrOk d ∧ L2.atI NoT51 (i : Int) = some d := by
  have e : NoT51[i]? = some (NoT51[i]'h) := List.getElem?_eq_getElem h
  obtain ⟨h1, h2⟩ := noT_all _ (List.getElem_mem h)
  exact ⟨_, h1, h2, by rw [atI_natE]; exact e⟩
theorem optH_s (h : House) : optH (some h) = houseD h := rfl
theorem optH_n : optH none = .none := rfl
theorem strXA_d {d : PyData} {s : AS} {Q : AVal → AS → Prop} : strXA [.d d] s Q = (((∃ z, d = .str z) ∨ StrOk d) ∧ Q (.d (.str (strOfX d))) s) := by
  simp only [strXA, one_1, dat?_d, onSome_some]
theorem law_plain {K : PySem.W.Frag} {E : ExT} (ns : List Int) (hl : ns.length ≤ 63) : TT_law K E [.s K ns] [] fun rv _ => rv = .f (.bool true) := by
  have szl : 2000000 < sizeLine := by decide
  obtain ⟨J, eJ, hJ⟩ := maxmin ns.length 12 (by decide)
  have eJ2 : max 1 (min (ns.length : Int) 12) = (J : Int) := by rw [Int.min_comm]; exact eJ
  (first | simp_all_arith! [TT_law, tt_law] | skip)
  rw [eJ2]
  repeat (with_reducible refine And.intro (by first | omega | decide | exact Or.inl ⟨by omega, by omega⟩ | exact Or.inr ⟨by omega, by omega⟩ | (constructor <;> omega) | fail) ?_)
  rw [intsD_natE]
  refine forW_fun _ (List.range J) (fun _ => ⟨[some (.s K ns), none, none, none, none, none, none, none, none, none, none], []⟩) rfl ?_ ?_
  · intro i x N hx hN
    refine cutA (fun s => ∃ ms : List Int, s = ⟨[some (.s K ns), some (.d (.int (x : Int))), some (.r 0), none, none, none, none, none, none, none, none], [.lst (ms.map .int)]⟩) (fun M hM => ?_) ?_
    · (first | simp_arith [onSome_some] | skip)
      refine cell_use fun c => ?_
      (first | simp_arith [onSome_some] | skip)
      refine deck_use (many := 500) (by decide) fun ms => ?_
      (first | simp_arith [onSome_some] | skip)
      exact hM _ ⟨ms, rfl⟩
    rintro s' ⟨ms, rfl⟩
    refine cutA (fun s => ∃ (ws : List Int), s = ⟨[some (.s K ns), some (.d (.int (x : Int))), some (.r 0), some (.r 1), none, none, none, none, none, none, none], [.lst (ms.map .int), .lst (ws.map .int)]⟩) (fun M hM => ?_) ?_
    · (first | simp_arith [onSome_some] | skip)
      refine cell_use fun c => ?_
      (first | simp_arith [onSome_some] | skip)
      refine numbers_use (many := 520) (by decide) fun ws => ?_
      have ec : cutD (ws.map PyData.int) (some ((500 : Nat) : Int)) none = (ws.drop 500).map .int := by rw [cutD_dropC, List.map_drop]
      have ec : cutD (ws.map PyData.int) (some 500) none = (ws.drop 500).map .int := ec
      (first | simp_arith [ec] | skip)
      exact hM _ ⟨_, rfl⟩
    rintro s' ⟨ws, rfl⟩
    refine cutA (fun s => ∃ (ms : List Int) (h : House), Kds h.1 ∧ h.1.length ≤ 13 ∧ Rms h.2 ∧ h.2.length ≤ 40 ∧ s = ⟨[some (.s K ns), some (.d (.int (x : Int))), some (.r 0), some (.r 1), some (.d (houseD h)), none, none, none, none, none, none], [.lst (ms.map .int), .lst (ws.map .int)]⟩) (fun M hM => ?_) ?_
    · (first | simp_arith [onSome_some] | skip)
      refine ⟨by omega, take_use (many := 8) (by decide) fun r ns1 hr => ?_⟩
      by_cases hr1 : (r : Int) = 1
      · have d : decide ((r : Int) = 1) = true := decide_eq_true hr1
        (first | simp_arith [d] | skip)
        refine house_use (most := 40) (lk := 4) (by decide) (by decide) (by decide) fun h ns2 b1 b2 b3 b4 => ?_
        (first | simp_arith [onSome_some] | skip)
        exact hM _ ⟨ns2, h, b1, b2, b3, b4, rfl⟩
      · have d : decide ((r : Int) = 1) = false := decide_eq_false hr1
        (first | simp_arith [d] | skip)
        refine house_use (most := 6) (lk := 4) (by decide) (by decide) (by decide) fun h ns2 b1 b2 b3 b4 => ?_
        (first | simp_arith [onSome_some] | skip)
        exact hM _ ⟨ns2, h, b1, b2, b3, by omega, rfl⟩
    clear ms
    rintro s' ⟨ms, h, hk, hkl, hrm, hrl, rfl⟩
    have wh : Wh h := hrm.wh hk (by omega) (by omega)
    refine cutA (fun s => ∃ (ws : List Int), s = ⟨[some (.s K ns), some (.d (.int (x : Int))), some (.r 0), some (.r 1), some (.d (houseD h)), none, none, none, none, none, none], [.lst (ms.map .int), .lst (ws.map .int)]⟩) (fun M hM => ?_) ?_
    · (first | simp_arith [onSome_some] | skip)
      refine no_house_use wh fun d ns2 hd1 hd2 => ?_
      (first | simp_arith [onSome_some] | skip)
      refine shown_use hd1 hd2 ?_
      (first | simp_arith [onSome_some] | skip)
      exact hM _ ⟨ns2, rfl⟩
    clear ws
    rintro s' ⟨ws, rfl⟩
    refine cutA (fun s => ∃ z, Wd 3000 z ∧ s = ⟨[some (.s K ns), some (.d (.int (x : Int))), some (.r 0), some (.r 1), some (.d (houseD h)), some (.d (.str z)), none, none, none, none, none], [.lst (ms.map .int), .lst (ws.map .int)]⟩) (fun M hM => ?_) ?_
    · (first | simp_arith [onSome_some] | skip)
      refine lines_use wh ?_
      have h1 := rooms_len hrm
      have h2 := keysT_len hk
      (first | simp_arith [onSome_some] | skip)
      rw [show PyData.str (keysT h.1) :: (h.2.map roomT).map PyData.str = (keysT h.1 :: h.2.map roomT).map PyData.str from rfl, strs?_map, onSome_some]
      refine ⟨?_, hM _ ⟨houseT h, house_wd hk hkl hrm hrl, rfl⟩⟩
      rw [show (Str.ofString "\n").length = 1 from rfl, List.map_cons, List.sum_cons, List.length_cons, List.length_map]
      omega
    clear hk hkl hrm hrl wh
    rintro s' ⟨z, hz, rfl⟩
    refine cutA (fun s => ∃ (ws : List Int) (w : Nat), s = ⟨[some (.s K ns), some (.d (.int (x : Int))), some (.r 0), some (.r 1), some (.d (houseD h)), some (.d (.str z)), some (.d (.int (w : Int))), none, none, none, none], [.lst (ms.map .int), .lst (ws.map .int)]⟩) (fun M hM => ?_) ?_
    · (first | simp_arith [onSome_some] | skip)
      refine take_use (many := 9) (by decide) fun w ns2 hw => ?_
      (first | simp_arith [onSome_some] | skip)
      exact hM _ ⟨ns2, w, rfl⟩
    clear ws
    rintro s' ⟨ws, w, rfl⟩
    refine cutA (fun s => ∃ (z : Str) (ws : List Int), Wd 3010 z ∧ s = ⟨[some (.s K ns), some (.d (.int (x : Int))), some (.r 0), some (.r 1), some (.d (houseD h)), some (.d (.str z)), some (.d (.int (w : Int))), none, none, none, none], [.lst (ms.map .int), .lst (ws.map .int)]⟩) (fun M hM => ?_) ?_
    · by_cases c : (w : Int) < 3
      · have d : decide ((w : Int) < 3) = true := decide_eq_true c
        (first | simp_arith [d] | skip)
        refine changed_use hz (by decide) fun z' ns3 hz' => ?_
        (first | simp_arith [onSome_some] | skip)
        exact hM _ ⟨z', ns3, hz', rfl⟩
      · have d : decide ((w : Int) < 3) = false := decide_eq_false c
        (first | simp_arith [d] | skip)
        exact hM _ ⟨z, ws, hz.le (by decide), rfl⟩
    clear hz z ws
    rintro s' ⟨z, ws, hz, rfl⟩
    refine cutA (fun s => ∃ (z : Str) (ws : List Int), Wd 3020 z ∧ s = ⟨[some (.s K ns), some (.d (.int (x : Int))), some (.r 0), some (.r 1), some (.d (houseD h)), some (.d (.str z)), some (.d (.int (w : Int))), none, none, none, none], [.lst (ms.map .int), .lst (ws.map .int)]⟩) (fun M hM => ?_) ?_
    · by_cases c : (w : Int) = 0
      · have d : decide ((w : Int) = 0) = true := decide_eq_true c
        (first | simp_arith [d] | skip)
        refine changed_use hz (by decide) fun z' ns3 hz' => ?_
        (first | simp_arith [onSome_some] | skip)
        exact hM _ ⟨z', ns3, hz', rfl⟩
      · have d : decide ((w : Int) = 0) = false := decide_eq_false c
        (first | simp_arith [d] | skip)
        exact hM _ ⟨z, ws, hz.le (by decide), rfl⟩
    clear hz z ws
    rintro s' ⟨z, ws, hz, rfl⟩
    refine cutA (fun s => ∃ (z : Str) (ws : List Int), Wd 6060 z ∧ s = ⟨[some (.s K ns), some (.d (.int (x : Int))), some (.r 0), some (.r 1), some (.d (houseD h)), some (.d (.str z)), some (.d (.int (w : Int))), none, none, none, none], [.lst (ms.map .int), .lst (ws.map .int)]⟩) (fun M hM => ?_) ?_
    · by_cases c : (w : Int) = 3
      · have d : decide ((w : Int) = 3) = true := decide_eq_true c
        (first | simp_arith [d] | skip)
        refine lines_changed_use hz (by decide) fun z' ns3 hz' => ?_
        (first | simp_arith [onSome_some] | skip)
        exact hM _ ⟨z', ns3, hz', rfl⟩
      · have d : decide ((w : Int) = 3) = false := decide_eq_false c
        by_cases c4 : (w : Int) = 4
        · have d4 : decide ((w : Int) = 4) = true := decide_eq_true c4
          (first | simp_arith [d, d4] | skip)
          refine lines_changed_use hz (by decide) fun z' ns3 hz' => ?_
          (first | simp_arith [onSome_some] | skip)
          exact hM _ ⟨z', ns3, hz', rfl⟩
        · have d4 : decide ((w : Int) = 4) = false := decide_eq_false c4
          (first | simp_arith [d, d4] | skip)
          exact hM _ ⟨z, ws, hz.le (by decide), rfl⟩
    clear hz z ws
    rintro s' ⟨z, ws, hz, rfl⟩
    refine cutA (fun s => ∃ (z : Str) (ws : List Int), Wd 6060 z ∧ s = ⟨[some (.s K ns), some (.d (.int (x : Int))), some (.r 0), some (.r 1), some (.d (houseD h)), some (.d (.str z)), some (.d (.int (w : Int))), none, none, none, none], [.lst (ms.map .int), .lst (ws.map .int)]⟩) (fun M hM => ?_) ?_
    · by_cases c : (w : Int) = 5
      · have d : decide ((w : Int) = 5) = true := decide_eq_true c
        (first | simp_arith [d] | skip)
        refine take_use (many := 64) (by decide) fun u ns3 hu => ?_
        (first | simp_arith [onSome_some] | skip)
        refine odd_use fun z' hz' => ?_
        (first | simp_arith [onSome_some] | skip)
        exact hM _ ⟨z', ns3, hz'.le (by decide), rfl⟩
      · have d : decide ((w : Int) = 5) = false := decide_eq_false c
        (first | simp_arith [d] | skip)
        exact hM _ ⟨z, ws, hz, rfl⟩
    clear hz z ws
    rintro s' ⟨z, ws, hz, rfl⟩
    refine cutA (fun s => s = ⟨[some (.s K ns), some (.d (.int (x : Int))), some (.r 0), some (.r 1), some (.d (houseD h)), some (.d (.str z)), some (.d (.int (w : Int))), some (.d (optH (readL z))), none, none, none], [.lst (ms.map .int), .lst (ws.map .int)]⟩) (fun M hM => ?_) ?_
    · (first | simp_arith [onSome_some] | skip)
      have hzl := hz.1
      refine law_read_use (by omega) ?_
      (first | simp_arith [onSome_some] | skip)
      exact hM _ rfl
    rintro s' rfl
    refine cutA (fun s => ∃ (ws : List Int) (d : PyData) (o : Option House), ((d = .str z ∧ o = readL z) ∨ (NoTxt d ∧ StrOk d ∧ o = none)) ∧ s = ⟨[some (.s K ns), some (.d (.int (x : Int))), some (.r 0), some (.r 1), some (.d (houseD h)), some (.d d), some (.d (.int (w : Int))), some (.d (optH o)), none, none, none], [.lst (ms.map .int), .lst (ws.map .int)]⟩) (fun M hM => ?_) ?_
    · by_cases c : (w : Int) = 6
      · have d : decide ((w : Int) = 6) = true := decide_eq_true c
        (first | simp_arith [d] | skip)
        refine take_use (many := 2) (by decide) fun u ns3 hu => ?_
        by_cases c2 : (u : Int) = 0
        · have d2 : decide ((u : Int) = 0) = true := decide_eq_true c2
          (first | simp_arith [d, d2] | skip)
          repeat (with_reducible refine And.intro (by first | omega | decide | exact Or.inl ⟨by omega, by omega⟩ | exact Or.inr ⟨by omega, by omega⟩ | (constructor <;> omega) | fail) ?_)
          refine take_use (many := 10) (by decide) fun u ns4 hu => ?_
          obtain ⟨y, hy1, hy2, hy3⟩ := noT_at (i := u) (by omega)
          have hy3 : L2.atI [PyData.none, .int 7, .list [.list [], .list []], .list [.str (Str.ofString "-")], .bool true, dictD [], .tuple [.str (Str.ofString "-")], .int 0, .tuple [], .tuple [.list [], .list []]] (u : Int) = some y := hy3
          (first | simp_arith [hy3] | skip)
          exact hM _ ⟨ns4, y, none, .inr ⟨hy1, hy2, rfl⟩, rfl⟩
        · have d2 : decide ((u : Int) = 0) = false := decide_eq_false c2
          (first | simp_arith [d, d2] | skip)
          exact hM _ ⟨ns3, .str z, readL z, .inl ⟨rfl, rfl⟩, rfl⟩
      · have d : decide ((w : Int) = 6) = false := decide_eq_false c
        (first | simp_arith [d] | skip)
        exact hM _ ⟨ws, .str z, readL z, .inl ⟨rfl, rfl⟩, rfl⟩
    clear ws
    rintro s' ⟨ws, d, o, hd, rfl⟩
    have hso : (∃ z, d = .str z) ∨ StrOk d := by
      rcases hd with ⟨rfl, _⟩ | ⟨_, h, _⟩
      · exact .inl ⟨z, rfl⟩
      · exact .inr h
    have edv : ∀ y : Str, PyData.eqv (.str y) (.str y) = true := fun y => by rw [eqv_str]; exact decide_eq_true rfl
    have edd : ∀ y : Str, decide (y = y) = true := fun y => decide_eq_true rfl
    (first | simp_all_arith! [strXA_d] | skip)
    refine ⟨hso, ?_⟩
    rcases hd with ⟨rfl, rfl⟩ | ⟨hd, hd2, rfl⟩
    · have hzl := hz.1
      cases hr : readL z with
      | some g =>
        obtain ⟨g1, g2, g3⟩ := readL_some hr
        refine asked_told (e := houseD g) rfl (fun P' PE' hp => read_any (by omega) (fun _ _ => by rw [g1]; exact hp) fun hno => absurd (by rw [g1]; exact ⟨g2, g3⟩) hno) ?_
        obtain ⟨gd, _⟩ := houseF_good (z := z) (by omega) (by rw [g1]; exact g2)
        rw [g1] at gd
        (first | simp_arith [optH_s, strXA_d, noneV_tX, edv, edd] | skip)
        refine ⟨.inl ⟨z, rfl⟩, by omega, ?_⟩
        refine alike_h4 gd.few gd.many (fun r hr => ⟨by have := (gd.rooms r hr).2.2.2.1; omega, gd.each r hr⟩) ?_
        (first | simp_arith [onSome_some] | skip)
        exact hN _ (wk_of [.lst (ms.map .int), .lst (ws.map .int)] (by simp [SubS, ltO, AVal.lt]) rfl rfl (by simp))
      | none =>
        refine asked_no (fun P' PE' hp => read_any (by omega) (fun a b => absurd (readL_of (by omega) a b) (by rw [hr]; simp)) fun _ => hp) ?_
        (first | simp_arith [optH_n, strXA_d, edv, edd] | skip)
        refine ⟨.inl ⟨z, rfl⟩, by omega, ?_⟩
        exact hN _ (wk_of [.lst (ms.map .int), .lst (ws.map .int)] (by simp [SubS, ltO, AVal.lt]) rfl rfl (by simp))
    · refine asked_no (fun P' PE' hp => read_noD hd hp) ?_
      (first | simp_arith [optH_n, strXA_d, edv, edd] | skip)
      refine ⟨.inr hd2, by omega, ?_⟩
      exact hN _ (wk_of [.lst (ms.map .int), .lst (ws.map .int)] (by simp [SubS, ltO, AVal.lt]) rfl rfl (by simp))
  · (first | simp_all_arith! [onSome_some] | skip)
theorem ok_law {P : Program} {w : World} {K : PySem.W.Frag} {mg : Str → Option Value} {base : Heap} (T : Tx K mg) : FnG P w K mg base CX0 8 T.f_law T.d_law ["script"] (spLaw K) := okLaw_AG (kk_law T) law_plain
end Kr
namespace Kr
open PySem L2
theorem all_mk {l : PySem.W.OpenLaw} {w : World} {K : PySem.W.Frag} {h : Heap} {mg : Str → Option Value} {fa : Addr} (X : K.In h) (G : h.Ns mainGlobals mg) (hfa : mg "law" = some (.ref fa))
    {f_is_kind : Addr} {od0 an0 : Option Addr} {sl0 : Array (Option Value)} {oc0 kV0 dc0 pm0 cd0 ct0 : Value}
    {f_are_keys : Addr} {od1 an1 : Option Addr} {sl1 : Array (Option Value)} {oc1 kV1 dc1 pm1 cd1 ct1 : Value}
    {f_is_room : Addr} {od2 an2 : Option Addr} {sl2 : Array (Option Value)} {oc2 kV2 dc2 pm2 cd2 ct2 : Value}
    {f_is_house : Addr} {od3 an3 : Option Addr} {sl3 : Array (Option Value)} {oc3 kV3 dc3 pm3 cd3 ct3 : Value}
    {f_show_keys : Addr} {od4 an4 : Option Addr} {sl4 : Array (Option Value)} {oc4 kV4 dc4 pm4 cd4 ct4 : Value}
    {f_show_room : Addr} {od5 an5 : Option Addr} {sl5 : Array (Option Value)} {oc5 kV5 dc5 pm5 cd5 ct5 : Value}
    {f_show_house : Addr} {od6 an6 : Option Addr} {sl6 : Array (Option Value)} {oc6 kV6 dc6 pm6 cd6 ct6 : Value}
    {f_keys_from : Addr} {od7 an7 : Option Addr} {sl7 : Array (Option Value)} {oc7 kV7 dc7 pm7 cd7 ct7 : Value}
    {f_room_from : Addr} {od8 an8 : Option Addr} {sl8 : Array (Option Value)} {oc8 kV8 dc8 pm8 cd8 ct8 : Value}
    {f_read_house : Addr} {od9 an9 : Option Addr} {sl9 : Array (Option Value)} {oc9 kV9 dc9 pm9 cd9 ct9 : Value}
    {f_law_cell_at : Addr} {od10 an10 : Option Addr} {sl10 : Array (Option Value)} {oc10 kV10 dc10 pm10 cd10 ct10 : Value}
    {f_law_numbers : Addr} {od11 an11 : Option Addr} {sl11 : Array (Option Value)} {oc11 kV11 dc11 pm11 cd11 ct11 : Value}
    {f_law_deck : Addr} {od12 an12 : Option Addr} {sl12 : Array (Option Value)} {oc12 kV12 dc12 pm12 cd12 ct12 : Value}
    {f_law_take : Addr} {od13 an13 : Option Addr} {sl13 : Array (Option Value)} {oc13 kV13 dc13 pm13 cd13 ct13 : Value}
    {f_law_kind : Addr} {od14 an14 : Option Addr} {sl14 : Array (Option Value)} {oc14 kV14 dc14 pm14 cd14 ct14 : Value}
    {f_law_keys : Addr} {od15 an15 : Option Addr} {sl15 : Array (Option Value)} {oc15 kV15 dc15 pm15 cd15 ct15 : Value}
    {f_law_house : Addr} {od16 an16 : Option Addr} {sl16 : Array (Option Value)} {oc16 kV16 dc16 pm16 cd16 ct16 : Value}
    {f_law_keys_written : Addr} {od17 an17 : Option Addr} {sl17 : Array (Option Value)} {oc17 kV17 dc17 pm17 cd17 ct17 : Value}
    {f_law_lines : Addr} {od18 an18 : Option Addr} {sl18 : Array (Option Value)} {oc18 kV18 dc18 pm18 cd18 ct18 : Value}
    {f_law_alike : Addr} {od19 an19 : Option Addr} {sl19 : Array (Option Value)} {oc19 kV19 dc19 pm19 cd19 ct19 : Value}
    {f_law_kinds : Addr} {od20 an20 : Option Addr} {sl20 : Array (Option Value)} {oc20 kV20 dc20 pm20 cd20 ct20 : Value}
    {f_law_keys_read : Addr} {od21 an21 : Option Addr} {sl21 : Array (Option Value)} {oc21 kV21 dc21 pm21 cd21 ct21 : Value}
    {f_law_read : Addr} {od22 an22 : Option Addr} {sl22 : Array (Option Value)} {oc22 kV22 dc22 pm22 cd22 ct22 : Value}
    {f_law_asked : Addr} {od23 an23 : Option Addr} {sl23 : Array (Option Value)} {oc23 kV23 dc23 pm23 cd23 ct23 : Value}
    {f_law_changed : Addr} {od24 an24 : Option Addr} {sl24 : Array (Option Value)} {oc24 kV24 dc24 pm24 cd24 ct24 : Value}
    {f_law_lines_changed : Addr} {od25 an25 : Option Addr} {sl25 : Array (Option Value)} {oc25 kV25 dc25 pm25 cd25 ct25 : Value}
    {f_law_odd : Addr} {od26 an26 : Option Addr} {sl26 : Array (Option Value)} {oc26 kV26 dc26 pm26 cd26 ct26 : Value}
    {f_law_shown : Addr} {od27 an27 : Option Addr} {sl27 : Array (Option Value)} {oc27 kV27 dc27 pm27 cd27 ct27 : Value}
    {f_law_no_house : Addr} {od28 an28 : Option Addr} {sl28 : Array (Option Value)} {oc28 kV28 dc28 pm28 cd28 ct28 : Value}
    {f_law : Addr} {od29 an29 : Option Addr} {sl29 : Array (Option Value)} {oc29 kV29 dc29 pm29 cd29 ct29 : Value}
    {t_LETTERS : Tok}
    {t_LONGEST_KIND : Tok}
    {t_MOST_LOCKS : Tok}
    {e_NoHouse : Addr}
    {e_NoPlain : Addr}
    {e_NoOrder : Addr}
    {e_NoNumber : Addr}
    {e_NoKind : Addr}
    {e_TooMany : Addr}
    {e_NoText : Addr}
    {e_NoRow : Addr}
    {e_NoStep : Addr}
    {e_KeyroomError : Addr}
    (a_is_kind : PySem.W.nsIn K mainGlobals "is_kind" = some (some (.ref f_is_kind)))
    (l_is_kind : K.lookup f_is_kind = some ⟨oc0, od0, .func (PySem.W.fnOf "is_kind" "is_kind" (defArgs s_is_kind) (defBody s_is_kind) (defScope s_is_kind) .none kV0 dc0 pm0 an0 cd0 ct0), sl0⟩)
    (e_is_kind : PySem.W.codeIn K cd0 "is_kind" = true) (k_is_kind : PySem.W.keepIn K (.ref f_is_kind) = true)
    (a_are_keys : PySem.W.nsIn K mainGlobals "are_keys" = some (some (.ref f_are_keys)))
    (l_are_keys : K.lookup f_are_keys = some ⟨oc1, od1, .func (PySem.W.fnOf "are_keys" "are_keys" (defArgs s_are_keys) (defBody s_are_keys) (defScope s_are_keys) .none kV1 dc1 pm1 an1 cd1 ct1), sl1⟩)
    (e_are_keys : PySem.W.codeIn K cd1 "are_keys" = true) (k_are_keys : PySem.W.keepIn K (.ref f_are_keys) = true)
    (a_is_room : PySem.W.nsIn K mainGlobals "is_room" = some (some (.ref f_is_room)))
    (l_is_room : K.lookup f_is_room = some ⟨oc2, od2, .func (PySem.W.fnOf "is_room" "is_room" (defArgs s_is_room) (defBody s_is_room) (defScope s_is_room) .none kV2 dc2 pm2 an2 cd2 ct2), sl2⟩)
    (e_is_room : PySem.W.codeIn K cd2 "is_room" = true) (k_is_room : PySem.W.keepIn K (.ref f_is_room) = true)
    (a_is_house : PySem.W.nsIn K mainGlobals "is_house" = some (some (.ref f_is_house)))
    (l_is_house : K.lookup f_is_house = some ⟨oc3, od3, .func (PySem.W.fnOf "is_house" "is_house" (defArgs s_is_house) (defBody s_is_house) (defScope s_is_house) .none kV3 dc3 pm3 an3 cd3 ct3), sl3⟩)
    (e_is_house : PySem.W.codeIn K cd3 "is_house" = true) (k_is_house : PySem.W.keepIn K (.ref f_is_house) = true)
    (a_show_keys : PySem.W.nsIn K mainGlobals "show_keys" = some (some (.ref f_show_keys)))
    (l_show_keys : K.lookup f_show_keys = some ⟨oc4, od4, .func (PySem.W.fnOf "show_keys" "show_keys" (defArgs s_show_keys) (defBody s_show_keys) (defScope s_show_keys) .none kV4 dc4 pm4 an4 cd4 ct4), sl4⟩)
    (e_show_keys : PySem.W.codeIn K cd4 "show_keys" = true) (k_show_keys : PySem.W.keepIn K (.ref f_show_keys) = true)
    (a_show_room : PySem.W.nsIn K mainGlobals "show_room" = some (some (.ref f_show_room)))
    (l_show_room : K.lookup f_show_room = some ⟨oc5, od5, .func (PySem.W.fnOf "show_room" "show_room" (defArgs s_show_room) (defBody s_show_room) (defScope s_show_room) .none kV5 dc5 pm5 an5 cd5 ct5), sl5⟩)
    (e_show_room : PySem.W.codeIn K cd5 "show_room" = true) (k_show_room : PySem.W.keepIn K (.ref f_show_room) = true)
    (a_show_house : PySem.W.nsIn K mainGlobals "show_house" = some (some (.ref f_show_house)))
    (l_show_house : K.lookup f_show_house = some ⟨oc6, od6, .func (PySem.W.fnOf "show_house" "show_house" (defArgs s_show_house) (defBody s_show_house) (defScope s_show_house) .none kV6 dc6 pm6 an6 cd6 ct6), sl6⟩)
    (e_show_house : PySem.W.codeIn K cd6 "show_house" = true) (k_show_house : PySem.W.keepIn K (.ref f_show_house) = true)
    (a_keys_from : PySem.W.nsIn K mainGlobals "keys_from" = some (some (.ref f_keys_from)))
    (l_keys_from : K.lookup f_keys_from = some ⟨oc7, od7, .func (PySem.W.fnOf "keys_from" "keys_from" (defArgs s_keys_from) (defBody s_keys_from) (defScope s_keys_from) .none kV7 dc7 pm7 an7 cd7 ct7), sl7⟩)
    (e_keys_from : PySem.W.codeIn K cd7 "keys_from" = true) (k_keys_from : PySem.W.keepIn K (.ref f_keys_from) = true)
    (a_room_from : PySem.W.nsIn K mainGlobals "room_from" = some (some (.ref f_room_from)))
    (l_room_from : K.lookup f_room_from = some ⟨oc8, od8, .func (PySem.W.fnOf "room_from" "room_from" (defArgs s_room_from) (defBody s_room_from) (defScope s_room_from) .none kV8 dc8 pm8 an8 cd8 ct8), sl8⟩)
    (e_room_from : PySem.W.codeIn K cd8 "room_from" = true) (k_room_from : PySem.W.keepIn K (.ref f_room_from) = true)
    (a_read_house : PySem.W.nsIn K mainGlobals "read_house" = some (some (.ref f_read_house)))
    (l_read_house : K.lookup f_read_house = some ⟨oc9, od9, .func (PySem.W.fnOf "read_house" "read_house" (defArgs s_read_house) (defBody s_read_house) (defScope s_read_house) .none kV9 dc9 pm9 an9 cd9 ct9), sl9⟩)
    (e_read_house : PySem.W.codeIn K cd9 "read_house" = true) (k_read_house : PySem.W.keepIn K (.ref f_read_house) = true)
    (a_law_cell_at : PySem.W.nsIn K mainGlobals "_law_cell_at" = some (some (.ref f_law_cell_at)))
    (l_law_cell_at : K.lookup f_law_cell_at = some ⟨oc10, od10, .func (PySem.W.fnOf "_law_cell_at" "_law_cell_at" (defArgs s_law_cell_at) (defBody s_law_cell_at) (defScope s_law_cell_at) .none kV10 dc10 pm10 an10 cd10 ct10), sl10⟩)
    (e_law_cell_at : PySem.W.codeIn K cd10 "_law_cell_at" = true) (k_law_cell_at : PySem.W.keepIn K (.ref f_law_cell_at) = true)
    (a_law_numbers : PySem.W.nsIn K mainGlobals "_law_numbers" = some (some (.ref f_law_numbers)))
    (l_law_numbers : K.lookup f_law_numbers = some ⟨oc11, od11, .func (PySem.W.fnOf "_law_numbers" "_law_numbers" (defArgs s_law_numbers) (defBody s_law_numbers) (defScope s_law_numbers) .none kV11 dc11 pm11 an11 cd11 ct11), sl11⟩)
    (e_law_numbers : PySem.W.codeIn K cd11 "_law_numbers" = true) (k_law_numbers : PySem.W.keepIn K (.ref f_law_numbers) = true)
    (a_law_deck : PySem.W.nsIn K mainGlobals "_law_deck" = some (some (.ref f_law_deck)))
    (l_law_deck : K.lookup f_law_deck = some ⟨oc12, od12, .func (PySem.W.fnOf "_law_deck" "_law_deck" (defArgs s_law_deck) (defBody s_law_deck) (defScope s_law_deck) .none kV12 dc12 pm12 an12 cd12 ct12), sl12⟩)
    (e_law_deck : PySem.W.codeIn K cd12 "_law_deck" = true) (k_law_deck : PySem.W.keepIn K (.ref f_law_deck) = true)
    (a_law_take : PySem.W.nsIn K mainGlobals "_law_take" = some (some (.ref f_law_take)))
    (l_law_take : K.lookup f_law_take = some ⟨oc13, od13, .func (PySem.W.fnOf "_law_take" "_law_take" (defArgs s_law_take) (defBody s_law_take) (defScope s_law_take) .none kV13 dc13 pm13 an13 cd13 ct13), sl13⟩)
    (e_law_take : PySem.W.codeIn K cd13 "_law_take" = true) (k_law_take : PySem.W.keepIn K (.ref f_law_take) = true)
    (a_law_kind : PySem.W.nsIn K mainGlobals "_law_kind" = some (some (.ref f_law_kind)))
    (l_law_kind : K.lookup f_law_kind = some ⟨oc14, od14, .func (PySem.W.fnOf "_law_kind" "_law_kind" (defArgs s_law_kind) (defBody s_law_kind) (defScope s_law_kind) .none kV14 dc14 pm14 an14 cd14 ct14), sl14⟩)
    (e_law_kind : PySem.W.codeIn K cd14 "_law_kind" = true) (k_law_kind : PySem.W.keepIn K (.ref f_law_kind) = true)
    (a_law_keys : PySem.W.nsIn K mainGlobals "_law_keys" = some (some (.ref f_law_keys)))
    (l_law_keys : K.lookup f_law_keys = some ⟨oc15, od15, .func (PySem.W.fnOf "_law_keys" "_law_keys" (defArgs s_law_keys) (defBody s_law_keys) (defScope s_law_keys) .none kV15 dc15 pm15 an15 cd15 ct15), sl15⟩)
    (e_law_keys : PySem.W.codeIn K cd15 "_law_keys" = true) (k_law_keys : PySem.W.keepIn K (.ref f_law_keys) = true)
    (a_law_house : PySem.W.nsIn K mainGlobals "_law_house" = some (some (.ref f_law_house)))
    (l_law_house : K.lookup f_law_house = some ⟨oc16, od16, .func (PySem.W.fnOf "_law_house" "_law_house" (defArgs s_law_house) (defBody s_law_house) (defScope s_law_house) .none kV16 dc16 pm16 an16 cd16 ct16), sl16⟩)
    (e_law_house : PySem.W.codeIn K cd16 "_law_house" = true) (k_law_house : PySem.W.keepIn K (.ref f_law_house) = true)
    (a_law_keys_written : PySem.W.nsIn K mainGlobals "_law_keys_written" = some (some (.ref f_law_keys_written)))
    (l_law_keys_written : K.lookup f_law_keys_written = some ⟨oc17, od17, .func (PySem.W.fnOf "_law_keys_written" "_law_keys_written" (defArgs s_law_keys_written) (defBody s_law_keys_written) (defScope s_law_keys_written) .none kV17 dc17 pm17 an17 cd17 ct17), sl17⟩)
    (e_law_keys_written : PySem.W.codeIn K cd17 "_law_keys_written" = true) (k_law_keys_written : PySem.W.keepIn K (.ref f_law_keys_written) = true)
    (a_law_lines : PySem.W.nsIn K mainGlobals "_law_lines" = some (some (.ref f_law_lines)))
    (l_law_lines : K.lookup f_law_lines = some ⟨oc18, od18, .func (PySem.W.fnOf "_law_lines" "_law_lines" (defArgs s_law_lines) (defBody s_law_lines) (defScope s_law_lines) .none kV18 dc18 pm18 an18 cd18 ct18), sl18⟩)
    (e_law_lines : PySem.W.codeIn K cd18 "_law_lines" = true) (k_law_lines : PySem.W.keepIn K (.ref f_law_lines) = true)
    (a_law_alike : PySem.W.nsIn K mainGlobals "_law_alike" = some (some (.ref f_law_alike)))
    (l_law_alike : K.lookup f_law_alike = some ⟨oc19, od19, .func (PySem.W.fnOf "_law_alike" "_law_alike" (defArgs s_law_alike) (defBody s_law_alike) (defScope s_law_alike) .none kV19 dc19 pm19 an19 cd19 ct19), sl19⟩)
    (e_law_alike : PySem.W.codeIn K cd19 "_law_alike" = true) (k_law_alike : PySem.W.keepIn K (.ref f_law_alike) = true)
    (a_law_kinds : PySem.W.nsIn K mainGlobals "_law_kinds" = some (some (.ref f_law_kinds)))
    (l_law_kinds : K.lookup f_law_kinds = some ⟨oc20, od20, .func (PySem.W.fnOf "_law_kinds" "_law_kinds" (defArgs s_law_kinds) (defBody s_law_kinds) (defScope s_law_kinds) .none kV20 dc20 pm20 an20 cd20 ct20), sl20⟩)
    (e_law_kinds : PySem.W.codeIn K cd20 "_law_kinds" = true) (k_law_kinds : PySem.W.keepIn K (.ref f_law_kinds) = true)
    (a_law_keys_read : PySem.W.nsIn K mainGlobals "_law_keys_read" = some (some (.ref f_law_keys_read)))
    (l_law_keys_read : K.lookup f_law_keys_read = some ⟨oc21, od21, .func (PySem.W.fnOf "_law_keys_read" "_law_keys_read" (defArgs s_law_keys_read) (defBody s_law_keys_read) (defScope s_law_keys_read) .none kV21 dc21 pm21 an21 cd21 ct21), sl21⟩)
    (e_law_keys_read : PySem.W.codeIn K cd21 "_law_keys_read" = true) (k_law_keys_read : PySem.W.keepIn K (.ref f_law_keys_read) = true)
    (a_law_read : PySem.W.nsIn K mainGlobals "_law_read" = some (some (.ref f_law_read)))
    (l_law_read : K.lookup f_law_read = some ⟨oc22, od22, .func (PySem.W.fnOf "_law_read" "_law_read" (defArgs s_law_read) (defBody s_law_read) (defScope s_law_read) .none kV22 dc22 pm22 an22 cd22 ct22), sl22⟩)
    (e_law_read : PySem.W.codeIn K cd22 "_law_read" = true) (k_law_read : PySem.W.keepIn K (.ref f_law_read) = true)
    (a_law_asked : PySem.W.nsIn K mainGlobals "_law_asked" = some (some (.ref f_law_asked)))
    (l_law_asked : K.lookup f_law_asked = some ⟨oc23, od23, .func (PySem.W.fnOf "_law_asked" "_law_asked" (defArgs s_law_asked) (defBody s_law_asked) (defScope s_law_asked) .none kV23 dc23 pm23 an23 cd23 ct23), sl23⟩)
    (e_law_asked : PySem.W.codeIn K cd23 "_law_asked" = true) (k_law_asked : PySem.W.keepIn K (.ref f_law_asked) = true)
    (a_law_changed : PySem.W.nsIn K mainGlobals "_law_changed" = some (some (.ref f_law_changed)))
    (l_law_changed : K.lookup f_law_changed = some ⟨oc24, od24, .func (PySem.W.fnOf "_law_changed" "_law_changed" (defArgs s_law_changed) (defBody s_law_changed) (defScope s_law_changed) .none kV24 dc24 pm24 an24 cd24 ct24), sl24⟩)
    (e_law_changed : PySem.W.codeIn K cd24 "_law_changed" = true) (k_law_changed : PySem.W.keepIn K (.ref f_law_changed) = true)
    (a_law_lines_changed : PySem.W.nsIn K mainGlobals "_law_lines_changed" = some (some (.ref f_law_lines_changed)))
    (l_law_lines_changed : K.lookup f_law_lines_changed = some ⟨oc25, od25, .func (PySem.W.fnOf "_law_lines_changed" "_law_lines_changed" (defArgs s_law_lines_changed) (defBody s_law_lines_changed) (defScope s_law_lines_changed) .none kV25 dc25 pm25 an25 cd25 ct25), sl25⟩)
    (e_law_lines_changed : PySem.W.codeIn K cd25 "_law_lines_changed" = true) (k_law_lines_changed : PySem.W.keepIn K (.ref f_law_lines_changed) = true)
    (a_law_odd : PySem.W.nsIn K mainGlobals "_law_odd" = some (some (.ref f_law_odd)))
    (l_law_odd : K.lookup f_law_odd = some ⟨oc26, od26, .func (PySem.W.fnOf "_law_odd" "_law_odd" (defArgs s_law_odd) (defBody s_law_odd) (defScope s_law_odd) .none kV26 dc26 pm26 an26 cd26 ct26), sl26⟩)
    (e_law_odd : PySem.W.codeIn K cd26 "_law_odd" = true) (k_law_odd : PySem.W.keepIn K (.ref f_law_odd) = true)
    (a_law_shown : PySem.W.nsIn K mainGlobals "_law_shown" = some (some (.ref f_law_shown)))
    (l_law_shown : K.lookup f_law_shown = some ⟨oc27, od27, .func (PySem.W.fnOf "_law_shown" "_law_shown" (defArgs s_law_shown) (defBody s_law_shown) (defScope s_law_shown) .none kV27 dc27 pm27 an27 cd27 ct27), sl27⟩)
    (e_law_shown : PySem.W.codeIn K cd27 "_law_shown" = true) (k_law_shown : PySem.W.keepIn K (.ref f_law_shown) = true)
    (a_law_no_house : PySem.W.nsIn K mainGlobals "_law_no_house" = some (some (.ref f_law_no_house)))
    (l_law_no_house : K.lookup f_law_no_house = some ⟨oc28, od28, .func (PySem.W.fnOf "_law_no_house" "_law_no_house" (defArgs s_law_no_house) (defBody s_law_no_house) (defScope s_law_no_house) .none kV28 dc28 pm28 an28 cd28 ct28), sl28⟩)
    (e_law_no_house : PySem.W.codeIn K cd28 "_law_no_house" = true) (k_law_no_house : PySem.W.keepIn K (.ref f_law_no_house) = true)
    (a_law : PySem.W.nsIn K mainGlobals "law" = some (some (.ref f_law)))
    (l_law : K.lookup f_law = some ⟨oc29, od29, .func (PySem.W.fnOf "law" "law" (defArgs s_law) (defBody s_law) (defScope s_law) .none kV29 dc29 pm29 an29 cd29 ct29), sl29⟩)
    (e_law : PySem.W.codeIn K cd29 "law" = true) (k_law : PySem.W.keepIn K (.ref f_law) = true)
    (z_isinstance : PySem.W.nsIn K mainGlobals "isinstance" = some none)
    (z_str : PySem.W.nsIn K mainGlobals "str" = some none)
    (z_len : PySem.W.nsIn K mainGlobals "len" = some none)
    (z_list : PySem.W.nsIn K mainGlobals "list" = some none)
    (z_tuple : PySem.W.nsIn K mainGlobals "tuple" = some none)
    (z_sorted : PySem.W.nsIn K mainGlobals "sorted" = some none)
    (z_range : PySem.W.nsIn K mainGlobals "range" = some none)
    (z_int : PySem.W.nsIn K mainGlobals "int" = some none)
    (z_bool : PySem.W.nsIn K mainGlobals "bool" = some none)
    (z_ValueError : PySem.W.nsIn K mainGlobals "ValueError" = some none)
    (z_max : PySem.W.nsIn K mainGlobals "max" = some none)
    (z_min : PySem.W.nsIn K mainGlobals "min" = some none)
    (n_LETTERS : PySem.W.nsIn K mainGlobals "LETTERS" = some (some (.str "abcdefghijklmnopqrstuvwxyz" t_LETTERS)))
    (n_LONGEST_KIND : PySem.W.nsIn K mainGlobals "LONGEST_KIND" = some (some (.int 4 t_LONGEST_KIND)))
    (n_MOST_LOCKS : PySem.W.nsIn K mainGlobals "MOST_LOCKS" = some (some (.int 4 t_MOST_LOCKS)))
    (a_KeyroomError : PySem.W.nsIn K mainGlobals "KeyroomError" = some (some (.ref e_KeyroomError)))
    (a_NoHouse : PySem.W.nsIn K mainGlobals "NoHouse" = some (some (.ref e_NoHouse)))
    (a_NoPlain : PySem.W.nsIn K mainGlobals "NoPlain" = some (some (.ref e_NoPlain)))
    (a_NoOrder : PySem.W.nsIn K mainGlobals "NoOrder" = some (some (.ref e_NoOrder)))
    (a_NoNumber : PySem.W.nsIn K mainGlobals "NoNumber" = some (some (.ref e_NoNumber)))
    (a_NoKind : PySem.W.nsIn K mainGlobals "NoKind" = some (some (.ref e_NoKind)))
    (a_TooMany : PySem.W.nsIn K mainGlobals "TooMany" = some (some (.ref e_TooMany)))
    (a_NoText : PySem.W.nsIn K mainGlobals "NoText" = some (some (.ref e_NoText)))
    (a_NoRow : PySem.W.nsIn K mainGlobals "NoRow" = some (some (.ref e_NoRow)))
    (a_NoStep : PySem.W.nsIn K mainGlobals "NoStep" = some (some (.ref e_NoStep)))
    (w_n : PySem.W.specialIn K (.builtin "object.__class__") "__get__" = some (some (.builtin "getset_descriptor.__get__")))
    (w_t : PySem.W.takesIn K (.builtin "object.__class__") = some true)
    (xk_NoHouse : PySem.W.keepIn K (.ref e_NoHouse) = true)
    (xs_NoHouse : PySem.W.subIn K (.ref e_NoHouse) (.type "BaseException") = some true)
    (xt_NoHouse : PySem.W.typeIn K (.ref e_NoHouse) = some (.type "type"))
    (xi_NoHouse : PySem.W.isClsIn K e_NoHouse = true)
    (xg_NoHouse : PySem.W.findIn K (.ref e_NoHouse) "__getattribute__" = some (some (.builtin "BaseException.__getattribute__")))
    (xa_NoHouse : PySem.W.findIn K (.ref e_NoHouse) "__getattr__" = some none)
    (xd_NoHouse : PySem.W.hasDictIn K e_NoHouse = true)
    (xc_NoHouse : PySem.W.findIn K (.ref e_NoHouse) "__class__" = some (some (.builtin "object.__class__")))
    (xm_NoHouse : PySem.W.mroIn K e_NoHouse (.type "object") = some true)
    (xq_NoHouse : PySem.W.excIn K e_NoHouse [.type "ValueError", .type "Exception", .type "BaseException", .type "object"] "ValueError.__new__" = true)
    (xk_NoText : PySem.W.keepIn K (.ref e_NoText) = true)
    (xs_NoText : PySem.W.subIn K (.ref e_NoText) (.type "BaseException") = some true)
    (xt_NoText : PySem.W.typeIn K (.ref e_NoText) = some (.type "type"))
    (xi_NoText : PySem.W.isClsIn K e_NoText = true)
    (xg_NoText : PySem.W.findIn K (.ref e_NoText) "__getattribute__" = some (some (.builtin "BaseException.__getattribute__")))
    (xa_NoText : PySem.W.findIn K (.ref e_NoText) "__getattr__" = some none)
    (xd_NoText : PySem.W.hasDictIn K e_NoText = true)
    (xc_NoText : PySem.W.findIn K (.ref e_NoText) "__class__" = some (some (.builtin "object.__class__")))
    (xm_NoText : PySem.W.mroIn K e_NoText (.type "object") = some true)
    (xq_NoText : PySem.W.excIn K e_NoText [.type "ValueError", .type "Exception", .type "BaseException", .type "object"] "ValueError.__new__" = true)
    (u_NoHouse_NoHouse : PySem.W.subIn K (.ref e_NoHouse) (.ref e_NoHouse) = some true)
    (u_NoText_NoHouse : PySem.W.subIn K (.ref e_NoText) (.ref e_NoHouse) = some false)
    (ns_NoKind : PySem.W.subIn K (.ref e_NoKind) (.type "BaseException") = some true)
    (nt_NoKind : PySem.W.typeIn K (.ref e_NoKind) = some (.type "type"))
    (ni_NoKind : PySem.W.isClsIn K e_NoKind = true)
    (u_NoHouse_NoKind : PySem.W.subIn K (.ref e_NoHouse) (.ref e_NoKind) = some false)
    (u_NoText_NoKind : PySem.W.subIn K (.ref e_NoText) (.ref e_NoKind) = some false)
    (ns_NoNumber : PySem.W.subIn K (.ref e_NoNumber) (.type "BaseException") = some true)
    (nt_NoNumber : PySem.W.typeIn K (.ref e_NoNumber) = some (.type "type"))
    (ni_NoNumber : PySem.W.isClsIn K e_NoNumber = true)
    (u_NoHouse_NoNumber : PySem.W.subIn K (.ref e_NoHouse) (.ref e_NoNumber) = some false)
    (u_NoText_NoNumber : PySem.W.subIn K (.ref e_NoText) (.ref e_NoNumber) = some false)
    (ns_NoOrder : PySem.W.subIn K (.ref e_NoOrder) (.type "BaseException") = some true)
    (nt_NoOrder : PySem.W.typeIn K (.ref e_NoOrder) = some (.type "type"))
    (ni_NoOrder : PySem.W.isClsIn K e_NoOrder = true)
    (u_NoHouse_NoOrder : PySem.W.subIn K (.ref e_NoHouse) (.ref e_NoOrder) = some false)
    (u_NoText_NoOrder : PySem.W.subIn K (.ref e_NoText) (.ref e_NoOrder) = some false)
    (ns_NoPlain : PySem.W.subIn K (.ref e_NoPlain) (.type "BaseException") = some true)
    (nt_NoPlain : PySem.W.typeIn K (.ref e_NoPlain) = some (.type "type"))
    (ni_NoPlain : PySem.W.isClsIn K e_NoPlain = true)
    (u_NoHouse_NoPlain : PySem.W.subIn K (.ref e_NoHouse) (.ref e_NoPlain) = some false)
    (u_NoText_NoPlain : PySem.W.subIn K (.ref e_NoText) (.ref e_NoPlain) = some false)
    (ns_NoRow : PySem.W.subIn K (.ref e_NoRow) (.type "BaseException") = some true)
    (nt_NoRow : PySem.W.typeIn K (.ref e_NoRow) = some (.type "type"))
    (ni_NoRow : PySem.W.isClsIn K e_NoRow = true)
    (u_NoHouse_NoRow : PySem.W.subIn K (.ref e_NoHouse) (.ref e_NoRow) = some false)
    (u_NoText_NoRow : PySem.W.subIn K (.ref e_NoText) (.ref e_NoRow) = some false)
    (ns_NoStep : PySem.W.subIn K (.ref e_NoStep) (.type "BaseException") = some true)
    (nt_NoStep : PySem.W.typeIn K (.ref e_NoStep) = some (.type "type"))
    (ni_NoStep : PySem.W.isClsIn K e_NoStep = true)
    (u_NoHouse_NoStep : PySem.W.subIn K (.ref e_NoHouse) (.ref e_NoStep) = some false)
    (u_NoText_NoStep : PySem.W.subIn K (.ref e_NoText) (.ref e_NoStep) = some false)
    (ns_TooMany : PySem.W.subIn K (.ref e_TooMany) (.type "BaseException") = some true)
    (nt_TooMany : PySem.W.typeIn K (.ref e_TooMany) = some (.type "type"))
    (ni_TooMany : PySem.W.isClsIn K e_TooMany = true)
    (u_NoHouse_TooMany : PySem.W.subIn K (.ref e_NoHouse) (.ref e_TooMany) = some false)
    (u_NoText_TooMany : PySem.W.subIn K (.ref e_NoText) (.ref e_TooMany) = some false)
    (u_NoHouse_NoText : PySem.W.subIn K (.ref e_NoHouse) (.ref e_NoText) = some false)
    (u_NoText_NoText : PySem.W.subIn K (.ref e_NoText) (.ref e_NoText) = some true)
    (u_NoHouse_ValueError : PySem.W.subIn K (.ref e_NoHouse) (.type "ValueError") = some true)
    (u_NoText_ValueError : PySem.W.subIn K (.ref e_NoText) (.type "ValueError") = some true)
    (ns_KeyroomError : PySem.W.subIn K (.ref e_KeyroomError) (.type "BaseException") = some true)
    (nt_KeyroomError : PySem.W.typeIn K (.ref e_KeyroomError) = some (.type "type"))
    (ni_KeyroomError : PySem.W.isClsIn K e_KeyroomError = true)
    (ne_NoHouse : e_NoHouse ≠ e_KeyroomError)
    (ne_NoText : e_NoText ≠ e_KeyroomError)
    (u_NoHouse_KeyroomError : PySem.W.subIn K (.ref e_NoHouse) (.ref e_KeyroomError) = some true)
    (u_NoText_KeyroomError : PySem.W.subIn K (.ref e_NoText) (.ref e_KeyroomError) = some true)
    (z_E : ([e_NoHouse, e_NoPlain, e_NoOrder, e_NoNumber, e_NoKind, e_TooMany, e_NoText, e_NoRow, e_NoStep] : List Addr).Nodup)
    : ∃ fd : FuncData, (∀ (s : Shared) (v : Value), BindsTo s fd ⟨[v], []⟩ [("script", v)]) ∧ ∀ base : Heap, K.In base → base.Ns mainGlobals mg → FnG l.prog w K mg base CX0 8 fa fd ["script"] (spLaw K) := by
  have e := hfa.symm.trans (PySem.W.mg_of X G a_law)
  cases e
  have F_is_kind := fun_mk (st := s_is_kind) l_is_kind e_is_kind k_is_kind
  have b_is_kind := F_is_kind.binds (ps := ["thing"]) fun _ _ _ _ _ _ us hl => match us, hl with | [_], _ => rfl
  have F_are_keys := fun_mk (st := s_are_keys) l_are_keys e_are_keys k_are_keys
  have b_are_keys := F_are_keys.binds (ps := ["thing"]) fun _ _ _ _ _ _ us hl => match us, hl with | [_], _ => rfl
  have F_is_room := fun_mk (st := s_is_room) l_is_room e_is_room k_is_room
  have b_is_room := F_is_room.binds (ps := ["thing"]) fun _ _ _ _ _ _ us hl => match us, hl with | [_], _ => rfl
  have F_is_house := fun_mk (st := s_is_house) l_is_house e_is_house k_is_house
  have b_is_house := F_is_house.binds (ps := ["thing"]) fun _ _ _ _ _ _ us hl => match us, hl with | [_], _ => rfl
  have F_show_keys := fun_mk (st := s_show_keys) l_show_keys e_show_keys k_show_keys
  have b_show_keys := F_show_keys.binds (ps := ["keys"]) fun _ _ _ _ _ _ us hl => match us, hl with | [_], _ => rfl
  have F_show_room := fun_mk (st := s_show_room) l_show_room e_show_room k_show_room
  have b_show_room := F_show_room.binds (ps := ["room"]) fun _ _ _ _ _ _ us hl => match us, hl with | [_], _ => rfl
  have F_show_house := fun_mk (st := s_show_house) l_show_house e_show_house k_show_house
  have b_show_house := F_show_house.binds (ps := ["house"]) fun _ _ _ _ _ _ us hl => match us, hl with | [_], _ => rfl
  have F_keys_from := fun_mk (st := s_keys_from) l_keys_from e_keys_from k_keys_from
  have b_keys_from := F_keys_from.binds (ps := ["text"]) fun _ _ _ _ _ _ us hl => match us, hl with | [_], _ => rfl
  have F_room_from := fun_mk (st := s_room_from) l_room_from e_room_from k_room_from
  have b_room_from := F_room_from.binds (ps := ["line"]) fun _ _ _ _ _ _ us hl => match us, hl with | [_], _ => rfl
  have F_read_house := fun_mk (st := s_read_house) l_read_house e_read_house k_read_house
  have b_read_house := F_read_house.binds (ps := ["text"]) fun _ _ _ _ _ _ us hl => match us, hl with | [_], _ => rfl
  have F_law_cell_at := fun_mk (st := s_law_cell_at) l_law_cell_at e_law_cell_at k_law_cell_at
  have b_law_cell_at := F_law_cell_at.binds (ps := ["script", "k"]) fun _ _ _ _ _ _ us hl => match us, hl with | [_, _], _ => rfl
  have F_law_numbers := fun_mk (st := s_law_numbers) l_law_numbers e_law_numbers k_law_numbers
  have b_law_numbers := F_law_numbers.binds (ps := ["cell", "many"]) fun _ _ _ _ _ _ us hl => match us, hl with | [_, _], _ => rfl
  have F_law_deck := fun_mk (st := s_law_deck) l_law_deck e_law_deck k_law_deck
  have b_law_deck := F_law_deck.binds (ps := ["cell", "many"]) fun _ _ _ _ _ _ us hl => match us, hl with | [_, _], _ => rfl
  have F_law_take := fun_mk (st := s_law_take) l_law_take e_law_take k_law_take
  have b_law_take := F_law_take.binds (ps := ["deck", "many"]) fun _ _ _ _ _ _ us hl => match us, hl with | [_, _], _ => rfl
  have F_law_kind := fun_mk (st := s_law_kind) l_law_kind e_law_kind k_law_kind
  have b_law_kind := F_law_kind.binds (ps := ["deck", "few"]) fun _ _ _ _ _ _ us hl => match us, hl with | [_, _], _ => rfl
  have F_law_keys := fun_mk (st := s_law_keys) l_law_keys e_law_keys k_law_keys
  have b_law_keys := F_law_keys.binds (ps := ["deck", "few", "most"]) fun _ _ _ _ _ _ us hl => match us, hl with | [_, _, _], _ => rfl
  have F_law_house := fun_mk (st := s_law_house) l_law_house e_law_house k_law_house
  have b_law_house := F_law_house.binds (ps := ["deck", "most", "locks"]) fun _ _ _ _ _ _ us hl => match us, hl with | [_, _, _], _ => rfl
  have F_law_keys_written := fun_mk (st := s_law_keys_written) l_law_keys_written e_law_keys_written k_law_keys_written
  have b_law_keys_written := F_law_keys_written.binds (ps := ["keys"]) fun _ _ _ _ _ _ us hl => match us, hl with | [_], _ => rfl
  have F_law_lines := fun_mk (st := s_law_lines) l_law_lines e_law_lines k_law_lines
  have b_law_lines := F_law_lines.binds (ps := ["house"]) fun _ _ _ _ _ _ us hl => match us, hl with | [_], _ => rfl
  have F_law_alike := fun_mk (st := s_law_alike) l_law_alike e_law_alike k_law_alike
  have b_law_alike := F_law_alike.binds (ps := ["found", "due"]) fun _ _ _ _ _ _ us hl => match us, hl with | [_, _], _ => rfl
  have F_law_kinds := fun_mk (st := s_law_kinds) l_law_kinds e_law_kinds k_law_kinds
  have b_law_kinds := F_law_kinds.binds (ps := ["words"]) fun _ _ _ _ _ _ us hl => match us, hl with | [_], _ => rfl
  have F_law_keys_read := fun_mk (st := s_law_keys_read) l_law_keys_read e_law_keys_read k_law_keys_read
  have b_law_keys_read := F_law_keys_read.binds (ps := ["text"]) fun _ _ _ _ _ _ us hl => match us, hl with | [_], _ => rfl
  have F_law_read := fun_mk (st := s_law_read) l_law_read e_law_read k_law_read
  have b_law_read := F_law_read.binds (ps := ["text"]) fun _ _ _ _ _ _ us hl => match us, hl with | [_], _ => rfl
  have F_law_asked := fun_mk (st := s_law_asked) l_law_asked e_law_asked k_law_asked
  have b_law_asked := F_law_asked.binds (ps := ["text"]) fun _ _ _ _ _ _ us hl => match us, hl with | [_], _ => rfl
  have F_law_changed := fun_mk (st := s_law_changed) l_law_changed e_law_changed k_law_changed
  have b_law_changed := F_law_changed.binds (ps := ["text", "deck"]) fun _ _ _ _ _ _ us hl => match us, hl with | [_, _], _ => rfl
  have F_law_lines_changed := fun_mk (st := s_law_lines_changed) l_law_lines_changed e_law_lines_changed k_law_lines_changed
  have b_law_lines_changed := F_law_lines_changed.binds (ps := ["text", "deck"]) fun _ _ _ _ _ _ us hl => match us, hl with | [_, _], _ => rfl
  have F_law_odd := fun_mk (st := s_law_odd) l_law_odd e_law_odd k_law_odd
  have b_law_odd := F_law_odd.binds (ps := ["number"]) fun _ _ _ _ _ _ us hl => match us, hl with | [_], _ => rfl
  have F_law_shown := fun_mk (st := s_law_shown) l_law_shown e_law_shown k_law_shown
  have b_law_shown := F_law_shown.binds (ps := ["thing"]) fun _ _ _ _ _ _ us hl => match us, hl with | [_], _ => rfl
  have F_law_no_house := fun_mk (st := s_law_no_house) l_law_no_house e_law_no_house k_law_no_house
  have b_law_no_house := F_law_no_house.binds (ps := ["deck", "house"]) fun _ _ _ _ _ _ us hl => match us, hl with | [_, _], _ => rfl
  have F_law := fun_mk (st := s_law) l_law e_law k_law
  have b_law := F_law.binds (ps := ["script"]) fun _ _ _ _ _ _ us hl => match us, hl with | [_], _ => rfl
  let E0 : ExT := mkE [e_NoHouse, e_NoPlain, e_NoOrder, e_NoNumber, e_NoKind, e_TooMany, e_NoText, e_NoRow, e_NoStep] rfl z_E
  have xx_NoHouse : ExcC K e_NoHouse := exc_mk xg_NoHouse xa_NoHouse xs_NoHouse xd_NoHouse xc_NoHouse w_n w_t xm_NoHouse
  have xx_NoText : ExcC K e_NoText := exc_mk xg_NoText xa_NoText xs_NoText xd_NoText xc_NoText w_n w_t xm_NoText
  let T : Tx K mg := {
    E := E0,
    e_KeyroomError := e_KeyroomError, x_KeyroomError := PySem.W.mg_of X G a_KeyroomError,
    x_NoHouse := ⟨PySem.W.mg_of X G a_NoHouse, xk_NoHouse, xs_NoHouse, xt_NoHouse, xi_NoHouse, xx_NoHouse⟩,
    q_NoHouse := xq_NoHouse,
    g_NoHouse := PySem.W.mg_of X G a_NoHouse,
    g_NoPlain := PySem.W.mg_of X G a_NoPlain,
    g_NoOrder := PySem.W.mg_of X G a_NoOrder,
    g_NoNumber := PySem.W.mg_of X G a_NoNumber,
    g_NoKind := PySem.W.mg_of X G a_NoKind,
    g_TooMany := PySem.W.mg_of X G a_TooMany,
    x_NoText := ⟨PySem.W.mg_of X G a_NoText, xk_NoText, xs_NoText, xt_NoText, xi_NoText, xx_NoText⟩,
    q_NoText := xq_NoText,
    g_NoText := PySem.W.mg_of X G a_NoText,
    g_NoRow := PySem.W.mg_of X G a_NoRow,
    g_NoStep := PySem.W.mg_of X G a_NoStep,
    xC := (fl_cons (xx_NoHouse) (fl_cons (xx_NoText) fl_nil)),
    k_NoHouse := (fl_cons (kit_ref xi_NoHouse xt_NoHouse u_NoHouse_NoHouse (fun _ => rfl)) (fl_cons (kit_ref xi_NoHouse xt_NoHouse u_NoText_NoHouse (fun z => absurd (E0.inj .text .house z) (fun y => nomatch y))) fl_nil)),
    k_NoKind := (fl_cons (kit_ref ni_NoKind nt_NoKind u_NoHouse_NoKind (fun z => absurd (E0.inj .house .kind z) (fun y => nomatch y))) (fl_cons (kit_ref ni_NoKind nt_NoKind u_NoText_NoKind (fun z => absurd (E0.inj .text .kind z) (fun y => nomatch y))) fl_nil)),
    k_NoNumber := (fl_cons (kit_ref ni_NoNumber nt_NoNumber u_NoHouse_NoNumber (fun z => absurd (E0.inj .house .number z) (fun y => nomatch y))) (fl_cons (kit_ref ni_NoNumber nt_NoNumber u_NoText_NoNumber (fun z => absurd (E0.inj .text .number z) (fun y => nomatch y))) fl_nil)),
    k_NoOrder := (fl_cons (kit_ref ni_NoOrder nt_NoOrder u_NoHouse_NoOrder (fun z => absurd (E0.inj .house .order z) (fun y => nomatch y))) (fl_cons (kit_ref ni_NoOrder nt_NoOrder u_NoText_NoOrder (fun z => absurd (E0.inj .text .order z) (fun y => nomatch y))) fl_nil)),
    k_NoPlain := (fl_cons (kit_ref ni_NoPlain nt_NoPlain u_NoHouse_NoPlain (fun z => absurd (E0.inj .house .plain z) (fun y => nomatch y))) (fl_cons (kit_ref ni_NoPlain nt_NoPlain u_NoText_NoPlain (fun z => absurd (E0.inj .text .plain z) (fun y => nomatch y))) fl_nil)),
    k_NoRow := (fl_cons (kit_ref ni_NoRow nt_NoRow u_NoHouse_NoRow (fun z => absurd (E0.inj .house .row z) (fun y => nomatch y))) (fl_cons (kit_ref ni_NoRow nt_NoRow u_NoText_NoRow (fun z => absurd (E0.inj .text .row z) (fun y => nomatch y))) fl_nil)),
    k_NoStep := (fl_cons (kit_ref ni_NoStep nt_NoStep u_NoHouse_NoStep (fun z => absurd (E0.inj .house .step z) (fun y => nomatch y))) (fl_cons (kit_ref ni_NoStep nt_NoStep u_NoText_NoStep (fun z => absurd (E0.inj .text .step z) (fun y => nomatch y))) fl_nil)),
    k_TooMany := (fl_cons (kit_ref ni_TooMany nt_TooMany u_NoHouse_TooMany (fun z => absurd (E0.inj .house .many z) (fun y => nomatch y))) (fl_cons (kit_ref ni_TooMany nt_TooMany u_NoText_TooMany (fun z => absurd (E0.inj .text .many z) (fun y => nomatch y))) fl_nil)),
    k_NoText := (fl_cons (kit_ref xi_NoText xt_NoText u_NoHouse_NoText (fun z => absurd (E0.inj .house .text z) (fun y => nomatch y))) (fl_cons (kit_ref xi_NoText xt_NoText u_NoText_NoText (fun _ => rfl)) fl_nil)),
    k_ValueError := (fl_cons (kit_typ (by decide +kernel) u_NoHouse_ValueError) (fl_cons (kit_typ (by decide +kernel) u_NoText_ValueError) fl_nil)),
    h_KeyroomError := (fl_cons (fun _ => exm_of ns_KeyroomError ni_KeyroomError nt_KeyroomError u_NoHouse_KeyroomError) (fl_cons (fun _ => exm_of ns_KeyroomError ni_KeyroomError nt_KeyroomError u_NoText_KeyroomError) fl_nil)),
    f_is_kind := _, d_is_kind := _, F_is_kind := F_is_kind, b_is_kind := b_is_kind,
    g_is_kind := PySem.W.mg_of X G a_is_kind,
    f_are_keys := _, d_are_keys := _, F_are_keys := F_are_keys, b_are_keys := b_are_keys,
    g_are_keys := PySem.W.mg_of X G a_are_keys,
    f_is_room := _, d_is_room := _, F_is_room := F_is_room, b_is_room := b_is_room,
    g_is_room := PySem.W.mg_of X G a_is_room,
    f_is_house := _, d_is_house := _, F_is_house := F_is_house, b_is_house := b_is_house,
    g_is_house := PySem.W.mg_of X G a_is_house,
    f_show_keys := _, d_show_keys := _, F_show_keys := F_show_keys, b_show_keys := b_show_keys,
    g_show_keys := PySem.W.mg_of X G a_show_keys,
    f_show_room := _, d_show_room := _, F_show_room := F_show_room, b_show_room := b_show_room,
    g_show_room := PySem.W.mg_of X G a_show_room,
    f_show_house := _, d_show_house := _, F_show_house := F_show_house, b_show_house := b_show_house,
    g_show_house := PySem.W.mg_of X G a_show_house,
    f_keys_from := _, d_keys_from := _, F_keys_from := F_keys_from, b_keys_from := b_keys_from,
    g_keys_from := PySem.W.mg_of X G a_keys_from,
    f_room_from := _, d_room_from := _, F_room_from := F_room_from, b_room_from := b_room_from,
    g_room_from := PySem.W.mg_of X G a_room_from,
    f_read_house := _, d_read_house := _, F_read_house := F_read_house, b_read_house := b_read_house,
    g_read_house := PySem.W.mg_of X G a_read_house,
    f_law_cell_at := _, d_law_cell_at := _, F_law_cell_at := F_law_cell_at, b_law_cell_at := b_law_cell_at,
    g_law_cell_at := PySem.W.mg_of X G a_law_cell_at,
    f_law_numbers := _, d_law_numbers := _, F_law_numbers := F_law_numbers, b_law_numbers := b_law_numbers,
    g_law_numbers := PySem.W.mg_of X G a_law_numbers,
    f_law_deck := _, d_law_deck := _, F_law_deck := F_law_deck, b_law_deck := b_law_deck,
    g_law_deck := PySem.W.mg_of X G a_law_deck,
    f_law_take := _, d_law_take := _, F_law_take := F_law_take, b_law_take := b_law_take,
    g_law_take := PySem.W.mg_of X G a_law_take,
    f_law_kind := _, d_law_kind := _, F_law_kind := F_law_kind, b_law_kind := b_law_kind,
    g_law_kind := PySem.W.mg_of X G a_law_kind,
    f_law_keys := _, d_law_keys := _, F_law_keys := F_law_keys, b_law_keys := b_law_keys,
    g_law_keys := PySem.W.mg_of X G a_law_keys,
    f_law_house := _, d_law_house := _, F_law_house := F_law_house, b_law_house := b_law_house,
    g_law_house := PySem.W.mg_of X G a_law_house,
    f_law_keys_written := _, d_law_keys_written := _, F_law_keys_written := F_law_keys_written, b_law_keys_written := b_law_keys_written,
    g_law_keys_written := PySem.W.mg_of X G a_law_keys_written,
    f_law_lines := _, d_law_lines := _, F_law_lines := F_law_lines, b_law_lines := b_law_lines,
    g_law_lines := PySem.W.mg_of X G a_law_lines,
    f_law_alike := _, d_law_alike := _, F_law_alike := F_law_alike, b_law_alike := b_law_alike,
    g_law_alike := PySem.W.mg_of X G a_law_alike,
    f_law_kinds := _, d_law_kinds := _, F_law_kinds := F_law_kinds, b_law_kinds := b_law_kinds,
    g_law_kinds := PySem.W.mg_of X G a_law_kinds,
    f_law_keys_read := _, d_law_keys_read := _, F_law_keys_read := F_law_keys_read, b_law_keys_read := b_law_keys_read,
    g_law_keys_read := PySem.W.mg_of X G a_law_keys_read,
    f_law_read := _, d_law_read := _, F_law_read := F_law_read, b_law_read := b_law_read,
    g_law_read := PySem.W.mg_of X G a_law_read,
    f_law_asked := _, d_law_asked := _, F_law_asked := F_law_asked, b_law_asked := b_law_asked,
    g_law_asked := PySem.W.mg_of X G a_law_asked,
    f_law_changed := _, d_law_changed := _, F_law_changed := F_law_changed, b_law_changed := b_law_changed,
    g_law_changed := PySem.W.mg_of X G a_law_changed,
    f_law_lines_changed := _, d_law_lines_changed := _, F_law_lines_changed := F_law_lines_changed, b_law_lines_changed := b_law_lines_changed,
    g_law_lines_changed := PySem.W.mg_of X G a_law_lines_changed,
    f_law_odd := _, d_law_odd := _, F_law_odd := F_law_odd, b_law_odd := b_law_odd,
    g_law_odd := PySem.W.mg_of X G a_law_odd,
    f_law_shown := _, d_law_shown := _, F_law_shown := F_law_shown, b_law_shown := b_law_shown,
    g_law_shown := PySem.W.mg_of X G a_law_shown,
    f_law_no_house := _, d_law_no_house := _, F_law_no_house := F_law_no_house, b_law_no_house := b_law_no_house,
    g_law_no_house := PySem.W.mg_of X G a_law_no_house,
    f_law := _, d_law := _, F_law := F_law, b_law := b_law,
    g_law := PySem.W.mg_of X G a_law,
    m_isinstance := PySem.W.mg_none_of X G z_isinstance,
    m_str := PySem.W.mg_none_of X G z_str,
    m_len := PySem.W.mg_none_of X G z_len,
    m_list := PySem.W.mg_none_of X G z_list,
    m_tuple := PySem.W.mg_none_of X G z_tuple,
    m_sorted := PySem.W.mg_none_of X G z_sorted,
    m_range := PySem.W.mg_none_of X G z_range,
    m_int := PySem.W.mg_none_of X G z_int,
    m_bool := PySem.W.mg_none_of X G z_bool,
    m_ValueError := PySem.W.mg_none_of X G z_ValueError,
    m_max := PySem.W.mg_none_of X G z_max,
    m_min := PySem.W.mg_none_of X G z_min,
    c_LETTERS := ⟨_, PySem.W.mg_of X G n_LETTERS, ⟨_, rfl⟩⟩,
    c_LONGEST_KIND := ⟨_, PySem.W.mg_of X G n_LONGEST_KIND, ⟨_, rfl⟩⟩,
    c_MOST_LOCKS := ⟨_, PySem.W.mg_of X G n_MOST_LOCKS, ⟨_, rfl⟩⟩ }
  exact ⟨_, fun s v => .of_eq rfl, fun base _ _ => ok_law T⟩
end Kr
open PySem PySem.W PyProof.Rows
set_option maxHeartbeats 0 in
theorem PySem.Challenge.cw_keyrooms_k51_texts_of_no_house_holds : PySem.Challenge.rw_keyrooms_k51_texts_of_no_house.Holds := by
  w_on; o_law; k_head; (case hw => w_witness2)
  k_fill
  refine Kr.walkG (l := PySem.Challenge.rw_keyrooms_k51_texts_of_no_house) (n := 63) (k := 8) (x := "script") (sp := fun w => Kr.spLaw _) rfl (by decide) rfl ⟨rfl, by decide, by decide⟩ rfl (fun w h Y => PySem.W.kIn_of Y) ?F (fun _ _ a ns hl _ hS => ⟨a, ns, rfl, hS, hl, fun _ => rfl⟩)
  case F =>
    intro w mg fa h KX G hmg
    refine' Kr.all_mk KX G hmg ?a_is_kind ?l_is_kind ?e_is_kind ?k_is_kind ?a_are_keys ?l_are_keys ?e_are_keys ?k_are_keys ?a_is_room ?l_is_room ?e_is_room ?k_is_room ?a_is_house ?l_is_house ?e_is_house ?k_is_house ?a_show_keys ?l_show_keys ?e_show_keys ?k_show_keys ?a_show_room ?l_show_room ?e_show_room ?k_show_room ?a_show_house ?l_show_house ?e_show_house ?k_show_house ?a_keys_from ?l_keys_from ?e_keys_from ?k_keys_from ?a_room_from ?l_room_from ?e_room_from ?k_room_from ?a_read_house ?l_read_house ?e_read_house ?k_read_house ?a_law_cell_at ?l_law_cell_at ?e_law_cell_at ?k_law_cell_at ?a_law_numbers ?l_law_numbers ?e_law_numbers ?k_law_numbers ?a_law_deck ?l_law_deck ?e_law_deck ?k_law_deck ?a_law_take ?l_law_take ?e_law_take ?k_law_take ?a_law_kind ?l_law_kind ?e_law_kind ?k_law_kind ?a_law_keys ?l_law_keys ?e_law_keys ?k_law_keys ?a_law_house ?l_law_house ?e_law_house ?k_law_house ?a_law_keys_written ?l_law_keys_written ?e_law_keys_written ?k_law_keys_written ?a_law_lines ?l_law_lines ?e_law_lines ?k_law_lines ?a_law_alike ?l_law_alike ?e_law_alike ?k_law_alike ?a_law_kinds ?l_law_kinds ?e_law_kinds ?k_law_kinds ?a_law_keys_read ?l_law_keys_read ?e_law_keys_read ?k_law_keys_read ?a_law_read ?l_law_read ?e_law_read ?k_law_read ?a_law_asked ?l_law_asked ?e_law_asked ?k_law_asked ?a_law_changed ?l_law_changed ?e_law_changed ?k_law_changed ?a_law_lines_changed ?l_law_lines_changed ?e_law_lines_changed ?k_law_lines_changed ?a_law_odd ?l_law_odd ?e_law_odd ?k_law_odd ?a_law_shown ?l_law_shown ?e_law_shown ?k_law_shown ?a_law_no_house ?l_law_no_house ?e_law_no_house ?k_law_no_house ?a_law ?l_law ?e_law ?k_law ?z_isinstance ?z_str ?z_len ?z_list ?z_tuple ?z_sorted ?z_range ?z_int ?z_bool ?z_ValueError ?z_max ?z_min ?n_LETTERS ?n_LONGEST_KIND ?n_MOST_LOCKS ?a_KeyroomError ?a_NoHouse ?a_NoPlain ?a_NoOrder ?a_NoNumber ?a_NoKind ?a_TooMany ?a_NoText ?a_NoRow ?a_NoStep ?w_n ?w_t ?xk_NoHouse ?xs_NoHouse ?xt_NoHouse ?xi_NoHouse ?xg_NoHouse ?xa_NoHouse ?xd_NoHouse ?xc_NoHouse ?xm_NoHouse ?xq_NoHouse ?xk_NoText ?xs_NoText ?xt_NoText ?xi_NoText ?xg_NoText ?xa_NoText ?xd_NoText ?xc_NoText ?xm_NoText ?xq_NoText ?u_NoHouse_NoHouse ?u_NoText_NoHouse ?ns_NoKind ?nt_NoKind ?ni_NoKind ?u_NoHouse_NoKind ?u_NoText_NoKind ?ns_NoNumber ?nt_NoNumber ?ni_NoNumber ?u_NoHouse_NoNumber ?u_NoText_NoNumber ?ns_NoOrder ?nt_NoOrder ?ni_NoOrder ?u_NoHouse_NoOrder ?u_NoText_NoOrder ?ns_NoPlain ?nt_NoPlain ?ni_NoPlain ?u_NoHouse_NoPlain ?u_NoText_NoPlain ?ns_NoRow ?nt_NoRow ?ni_NoRow ?u_NoHouse_NoRow ?u_NoText_NoRow ?ns_NoStep ?nt_NoStep ?ni_NoStep ?u_NoHouse_NoStep ?u_NoText_NoStep ?ns_TooMany ?nt_TooMany ?ni_TooMany ?u_NoHouse_TooMany ?u_NoText_TooMany ?u_NoHouse_NoText ?u_NoText_NoText ?u_NoHouse_ValueError ?u_NoText_ValueError ?ns_KeyroomError ?nt_KeyroomError ?ni_KeyroomError ?ne_NoHouse ?ne_NoText ?u_NoHouse_KeyroomError ?u_NoText_KeyroomError ?z_E
    case a_is_kind => k_is
    case l_is_kind => k_is
    case e_is_kind => k_is
    case k_is_kind => k_is
    case a_are_keys => k_is
    case l_are_keys => k_is
    case e_are_keys => k_is
    case k_are_keys => k_is
    case a_is_room => k_is
    case l_is_room => k_is
    case e_is_room => k_is
    case k_is_room => k_is
    case a_is_house => k_is
    case l_is_house => k_is
    case e_is_house => k_is
    case k_is_house => k_is
    case a_show_keys => k_is
    case l_show_keys => k_is
    case e_show_keys => k_is
    case k_show_keys => k_is
    case a_show_room => k_is
    case l_show_room => k_is
    case e_show_room => k_is
    case k_show_room => k_is
    case a_show_house => k_is
    case l_show_house => k_is
    case e_show_house => k_is
    case k_show_house => k_is
    case a_keys_from => k_is
    case l_keys_from => k_is
    case e_keys_from => k_is
    case k_keys_from => k_is
    case a_room_from => k_is
    case l_room_from => k_is
    case e_room_from => k_is
    case k_room_from => k_is
    case a_read_house => k_is
    case l_read_house => k_is
    case e_read_house => k_is
    case k_read_house => k_is
    case a_law_cell_at => k_is
    case l_law_cell_at => k_is
    case e_law_cell_at => k_is
    case k_law_cell_at => k_is
    case a_law_numbers => k_is
    case l_law_numbers => k_is
    case e_law_numbers => k_is
    case k_law_numbers => k_is
    case a_law_deck => k_is
    case l_law_deck => k_is
    case e_law_deck => k_is
    case k_law_deck => k_is
    case a_law_take => k_is
    case l_law_take => k_is
    case e_law_take => k_is
    case k_law_take => k_is
    case a_law_kind => k_is
    case l_law_kind => k_is
    case e_law_kind => k_is
    case k_law_kind => k_is
    case a_law_keys => k_is
    case l_law_keys => k_is
    case e_law_keys => k_is
    case k_law_keys => k_is
    case a_law_house => k_is
    case l_law_house => k_is
    case e_law_house => k_is
    case k_law_house => k_is
    case a_law_keys_written => k_is
    case l_law_keys_written => k_is
    case e_law_keys_written => k_is
    case k_law_keys_written => k_is
    case a_law_lines => k_is
    case l_law_lines => k_is
    case e_law_lines => k_is
    case k_law_lines => k_is
    case a_law_alike => k_is
    case l_law_alike => k_is
    case e_law_alike => k_is
    case k_law_alike => k_is
    case a_law_kinds => k_is
    case l_law_kinds => k_is
    case e_law_kinds => k_is
    case k_law_kinds => k_is
    case a_law_keys_read => k_is
    case l_law_keys_read => k_is
    case e_law_keys_read => k_is
    case k_law_keys_read => k_is
    case a_law_read => k_is
    case l_law_read => k_is
    case e_law_read => k_is
    case k_law_read => k_is
    case a_law_asked => k_is
    case l_law_asked => k_is
    case e_law_asked => k_is
    case k_law_asked => k_is
    case a_law_changed => k_is
    case l_law_changed => k_is
    case e_law_changed => k_is
    case k_law_changed => k_is
    case a_law_lines_changed => k_is
    case l_law_lines_changed => k_is
    case e_law_lines_changed => k_is
    case k_law_lines_changed => k_is
    case a_law_odd => k_is
    case l_law_odd => k_is
    case e_law_odd => k_is
    case k_law_odd => k_is
    case a_law_shown => k_is
    case l_law_shown => k_is
    case e_law_shown => k_is
    case k_law_shown => k_is
    case a_law_no_house => k_is
    case l_law_no_house => k_is
    case e_law_no_house => k_is
    case k_law_no_house => k_is
    case a_law => k_is
    case l_law => k_is
    case e_law => k_is
    case k_law => k_is
    case z_isinstance => k_is
    case z_str => k_is
    case z_len => k_is
    case z_list => k_is
    case z_tuple => k_is
    case z_sorted => k_is
    case z_range => k_is
    case z_int => k_is
    case z_bool => k_is
    case z_ValueError => k_is
    case z_max => k_is
    case z_min => k_is
    case n_LETTERS => k_is
    case n_LONGEST_KIND => k_is
    case n_MOST_LOCKS => k_is
    case a_KeyroomError => k_is
    case a_NoHouse => k_is
    case a_NoPlain => k_is
    case a_NoOrder => k_is
    case a_NoNumber => k_is
    case a_NoKind => k_is
    case a_TooMany => k_is
    case a_NoText => k_is
    case a_NoRow => k_is
    case a_NoStep => k_is
    case w_n => k_is
    case w_t => k_is
    case xk_NoHouse => k_is
    case xs_NoHouse => k_is
    case xt_NoHouse => k_is
    case xi_NoHouse => k_is
    case xg_NoHouse => k_is
    case xa_NoHouse => k_is
    case xd_NoHouse => k_is
    case xc_NoHouse => k_is
    case xm_NoHouse => k_is
    case xq_NoHouse => k_exc
    case xk_NoText => k_is
    case xs_NoText => k_is
    case xt_NoText => k_is
    case xi_NoText => k_is
    case xg_NoText => k_is
    case xa_NoText => k_is
    case xd_NoText => k_is
    case xc_NoText => k_is
    case xm_NoText => k_is
    case xq_NoText => k_exc
    case u_NoHouse_NoHouse => first | k_is | rfl
    case u_NoText_NoHouse => first | k_is | rfl
    case ns_NoKind => k_is
    case nt_NoKind => k_is
    case ni_NoKind => k_is
    case u_NoHouse_NoKind => first | k_is | rfl
    case u_NoText_NoKind => first | k_is | rfl
    case ns_NoNumber => k_is
    case nt_NoNumber => k_is
    case ni_NoNumber => k_is
    case u_NoHouse_NoNumber => first | k_is | rfl
    case u_NoText_NoNumber => first | k_is | rfl
    case ns_NoOrder => k_is
    case nt_NoOrder => k_is
    case ni_NoOrder => k_is
    case u_NoHouse_NoOrder => first | k_is | rfl
    case u_NoText_NoOrder => first | k_is | rfl
    case ns_NoPlain => k_is
    case nt_NoPlain => k_is
    case ni_NoPlain => k_is
    case u_NoHouse_NoPlain => first | k_is | rfl
    case u_NoText_NoPlain => first | k_is | rfl
    case ns_NoRow => k_is
    case nt_NoRow => k_is
    case ni_NoRow => k_is
    case u_NoHouse_NoRow => first | k_is | rfl
    case u_NoText_NoRow => first | k_is | rfl
    case ns_NoStep => k_is
    case nt_NoStep => k_is
    case ni_NoStep => k_is
    case u_NoHouse_NoStep => first | k_is | rfl
    case u_NoText_NoStep => first | k_is | rfl
    case ns_TooMany => k_is
    case nt_TooMany => k_is
    case ni_TooMany => k_is
    case u_NoHouse_TooMany => first | k_is | rfl
    case u_NoText_TooMany => first | k_is | rfl
    case u_NoHouse_NoText => first | k_is | rfl
    case u_NoText_NoText => first | k_is | rfl
    case u_NoHouse_ValueError => first | k_is | rfl
    case u_NoText_ValueError => first | k_is | rfl
    case ns_KeyroomError => k_is
    case nt_KeyroomError => k_is
    case ni_KeyroomError => k_is
    case ne_NoHouse => decide
    case ne_NoText => decide
    case u_NoHouse_KeyroomError => first | k_is | rfl
    case u_NoText_KeyroomError => first | k_is | rfl
    case z_E => decide
