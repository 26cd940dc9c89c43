import PyProof.Rows.All
import Wide.All
import OpenK.AllK
import Wide.FinOn
import HandS.Base
import HandS.Call
import HandS.List
import HandS.Comp
import HandS.Ends
import HandS.Dict
import HandS.Iter
import HandS.Text
import HandS.Words
import HandS.WordsList
import HandS.IsInst
import HandS.Exc
import PyProof.Rows.SortShellAny
import HandS.Set
import HandS.SetFor
import HandS.Strs
import HandS.SortInts
import PyProof.SeqRoads2
import HandS.TryOnly
import HandS.WordsDict
import HandS.Finally
import HandS.Style
import HandS.More
import HandS.Conv
import HandS.Deep
import HandS.TupAny
import KE.SortData
import PyProof.SetRoads
import PyProof.ReprRoads
import KE.KDictZip
import HandS.WordsExc
import HandS.Sort
import KE.KDictSum
import HandS.ExcIs
import KE.KExcIs
import HandS.ExcInit
import HandS.ExcField
import PyProof.CallFns
import HandS.WideBits
import KE.KDictDisplayH
import KE.DataCmp
import KE.KxWritten
import PyProof.EnumMake
import PyProof.StrBlock2
import HandS.Wide
import KE.SortKeyHeap
import HandS.RaiseMore
import KE.KEqNest
import KE.DataMinMax
import PySem.Challenge.RW_keyrooms_k30_the_most
set_option Elab.async false
set_option linter.all false
set_option maxRecDepth 100000
set_option maxHeartbeats 4000000
/-! layer Kr1 -/
namespace Kr
open PySem L2
/-! ## data in the abstract heap -/
/-- a dict's key as data -/
def KeyD : PyData → Key → Prop
  | .int i, .inl j => i = j
  | .str x, .inr y => x = y
  | _, _ => False
/-- an error of a class of the program's own, as data: its class's address, and what its field at holds, if it has one -/
def exK (C : Addr) (y : PyData) : List (PyData × PyData) := [(.none, .tuple [.int C, y])]
def noExK : List (PyData × PyData) → Bool
  | (.none, _) :: _ => false
  | _ => true
def noEx : PyData → Bool
  | .dict kvs => noExK kvs
  | _ => true
def ExP (C : Addr) (d : Option Addr) (a : Addr) : Heap → Prop := fun h => ∃ oe vs, h.get? a = some oe ∧ Zc (.ref C) d oe ∧ oe.data = .fields vs
def AtOk (H : Hp) (y : PyData) (d : Option Addr) : Prop := (y = .list [] ∧ d = none) ∨ ∃ dd i w, y = .list [i] ∧ d = some dd ∧ H dd = some (.xd [(("at" : Str), w)]) ∧ ((i = .none ∧ w = .non) ∨ ∃ n, i = .int n ∧ w = .int n)
def ExV (H : Hp) (kvs : List (PyData × PyData)) (v : V) : Prop := ∃ a C d y, kvs = exK C y ∧ v = .ref a ∧ H a = some (.ext (ExP C d a)) ∧ AtOk H y d
theorem AtOk.mono {H H' : Hp} {y : PyData} {d : Option Addr} (s : Same H H') (h : AtOk H y d) : AtOk H' y d := by
  rcases h with h | ⟨dd, i, w, h1, h2, h3, h4⟩
  · exact .inl h
  · exact .inr ⟨dd, i, w, h1, h2, s _ _ h3, h4⟩
theorem ExV.mono {H H' : Hp} {kvs : List (PyData × PyData)} {v : V} (s : Same H H') (h : ExV H kvs v) : ExV H' kvs v := by
  obtain ⟨a, C, d, y, h1, h2, h3, h4⟩ := h
  exact ⟨a, C, d, y, h1, h2, s _ _ h3, h4.mono s⟩
theorem ExV.no {H : Hp} {kvs : List (PyData × PyData)} {v : V} (h : ExV H kvs v) (n : noExK kvs = true) : False := by
  obtain ⟨a, C, d, y, rfl, _⟩ := h
  cases n
mutual
def Da (H : Hp) : PyData → V → Prop
  | .none, v => v = .non
  | .bool b, v => v = .bl b
  | .int i, v => v = .int i
  | .str x, v => v = .str x
  | .list ds, v => ∃ a xs, v = .ref a ∧ H a = some (.lst xs) ∧ DaAll H ds xs
  | .tuple ds, v => ∃ a xs, v = .ref a ∧ H a = some (.tup xs) ∧ DaAll H ds xs
  | .dict kvs, v => (∃ a es, v = .ref a ∧ Rd H a (.dK es) ∧ DaKV H kvs es) ∨ ExV H kvs v
def DaAll (H : Hp) : List PyData → List V → Prop
  | [], vs => vs = []
  | d :: ds, vs => ∃ v r, vs = v :: r ∧ Da H d v ∧ DaAll H ds r
def DaKV (H : Hp) : List (PyData × PyData) → List (Key × V) → Prop
  | [], es => es = []
  | (k, d) :: kvs, es => ∃ k' v r, es = (k', v) :: r ∧ KeyD k k' ∧ Da H d v ∧ DaKV H kvs r
end
mutual
theorem Da.mono {H H' : Hp} (s : Same H H') : ∀ {d : PyData} {v : V}, Da H d v → Da H' d v
  | .none, _, h => h
  | .bool _, _, h => h
  | .int _, _, h => h
  | .str _, _, h => h
  | .list ds, v, h => by
    obtain ⟨a, xs, e, h1, h2⟩ := (show ∃ a xs, v = .ref a ∧ H a = some (.lst xs) ∧ DaAll H ds xs from h)
    exact (show ∃ a xs, v = .ref a ∧ H' a = some (.lst xs) ∧ DaAll H' ds xs from ⟨a, xs, e, s _ _ h1, DaAll.mono s h2⟩)
  | .tuple ds, v, h => by
    obtain ⟨a, xs, e, h1, h2⟩ := (show ∃ a xs, v = .ref a ∧ H a = some (.tup xs) ∧ DaAll H ds xs from h)
    exact (show ∃ a xs, v = .ref a ∧ H' a = some (.tup xs) ∧ DaAll H' ds xs from ⟨a, xs, e, s _ _ h1, DaAll.mono s h2⟩)
  | .dict kvs, v, h => by
    rcases (show (∃ a es, v = .ref a ∧ Rd H a (.dK es) ∧ DaKV H kvs es) ∨ ExV H kvs v from h) with ⟨a, xs, e, h1, h2⟩ | hx
    · exact (show (∃ a es, v = .ref a ∧ Rd H' a (.dK es) ∧ DaKV H' kvs es) ∨ ExV H' kvs v from .inl ⟨a, xs, e, h1.elim (fun z => .inl (s _ _ z)) (fun ⟨o, z⟩ => .inr ⟨o, s _ _ z⟩), DaKV.mono s h2⟩)
    · exact (show (∃ a es, v = .ref a ∧ Rd H' a (.dK es) ∧ DaKV H' kvs es) ∨ ExV H' kvs v from .inr (hx.mono s))
theorem DaAll.mono {H H' : Hp} (s : Same H H') : ∀ {ds : List PyData} {vs : List V}, DaAll H ds vs → DaAll H' ds vs
  | [], _, h => h
  | d :: ds, vs, h => by
    obtain ⟨v, r, e, h1, h2⟩ := (show ∃ v r, vs = v :: r ∧ Da H d v ∧ DaAll H ds r from h)
    exact (show ∃ v r, vs = v :: r ∧ Da H' d v ∧ DaAll H' ds r from ⟨v, r, e, h1.mono s, DaAll.mono s h2⟩)
theorem DaKV.mono {H H' : Hp} (s : Same H H') : ∀ {kvs : List (PyData × PyData)} {es : List (Key × V)}, DaKV H kvs es → DaKV H' kvs es
  | [], _, h => h
  | (k, d) :: kvs, es, h => by
    obtain ⟨k', v, r, e, h0, h1, h2⟩ := (show ∃ k' v r, es = (k', v) :: r ∧ KeyD k k' ∧ Da H d v ∧ DaKV H kvs r from h)
    exact (show ∃ k' v r, es = (k', v) :: r ∧ KeyD k k' ∧ Da H' d v ∧ DaKV H' kvs r from ⟨k', v, r, e, h0, h1.mono s, DaKV.mono s h2⟩)
end
mutual
theorem Da.dp {K : PySem.W.Frag} {H : Hp} : ∀ {d : PyData} {v : V}, Da H d v → d.canLay0 = true → Dp K H v d
  | .none, v, h, _ => by obtain rfl : v = .non := h; exact .non
  | .bool b, v, h, _ => by obtain rfl : v = .bl b := h; exact .bl b
  | .int i, v, h, _ => by obtain rfl : v = .int i := h; exact .int i
  | .str x, v, h, _ => by obtain rfl : v = .str x := h; exact .str x
  | .list ds, v, h, c => by
    obtain ⟨a, xs, rfl, h1, h2⟩ := (show ∃ a xs, v = .ref a ∧ H a = some (.lst xs) ∧ DaAll H ds xs from h)
    exact .lst (SqL.of h1) (DaAll.dp h2 (by simpa [PyData.canLay0] using c))
  | .tuple ds, v, h, c => by
    obtain ⟨a, xs, rfl, h1, h2⟩ := (show ∃ a xs, v = .ref a ∧ H a = some (.tup xs) ∧ DaAll H ds xs from h)
    exact .tup (SqT.of h1) (DaAll.dp h2 (by simpa [PyData.canLay0] using c))
  | .dict _, _, h, c => by simp [PyData.canLay0] at c
theorem DaAll.dp {K : PySem.W.Frag} {H : Hp} : ∀ {ds : List PyData} {vs : List V}, DaAll H ds vs → PyData.canLayAll0 ds = true → DpAll K H vs ds
  | [], vs, h, _ => by obtain rfl : vs = [] := h; exact .nil
  | d :: ds, vs, h, c => by
    obtain ⟨v, r, rfl, h1, h2⟩ := (show ∃ v r, vs = v :: r ∧ Da H d v ∧ DaAll H ds r from h)
    have c' : d.canLay0 = true ∧ PyData.canLayAll0 ds = true := by simpa [PyData.canLayAll0] using c
    exact .cons (h1.dp c'.1) (DaAll.dp h2 c'.2)
end
theorem Da.dict {H : Hp} {kvs : List (PyData × PyData)} {v : V} (h : Da H (.dict kvs) v) (n : noExK kvs = true) : ∃ a es, v = .ref a ∧ Rd H a (.dK es) ∧ DaKV H kvs es := by
  rcases (show (∃ a es, v = .ref a ∧ Rd H a (.dK es) ∧ DaKV H kvs es) ∨ ExV H kvs v from h) with h | h
  · exact h
  · exact (h.no n).elim
theorem Da.ofDict {H : Hp} {kvs : List (PyData × PyData)} {a : Addr} {es : List (Key × V)} (h1 : Rd H a (.dK es)) (h2 : DaKV H kvs es) : Da H (.dict kvs) (.ref a) := (show (∃ b es, V.ref a = .ref b ∧ Rd H b (.dK es) ∧ DaKV H kvs es) ∨ ExV H kvs (.ref a) from .inl ⟨a, es, rfl, h1, h2⟩)
section
variable {H : Hp}
theorem daAll_nil : DaAll H [] [] := rfl
theorem daAll_cons {d : PyData} {ds : List PyData} {v : V} {vs : List V} (h : Da H d v) (t : DaAll H ds vs) : DaAll H (d :: ds) (v :: vs) := ⟨v, vs, rfl, h, t⟩
theorem DaAll.length : ∀ {ds : List PyData} {vs : List V}, DaAll H ds vs → vs.length = ds.length
  | [], _, h => by obtain rfl := (show _ = [] from h); rfl
  | d :: ds, _, h => by
    obtain ⟨v, r, rfl, _, h2⟩ := (show ∃ v r, _ = v :: r ∧ Da H d v ∧ DaAll H ds r from h)
    simp [DaAll.length h2]
theorem DaAll.get : ∀ {ds : List PyData} {vs : List V} {i : Nat} {d : PyData}, DaAll H ds vs → ds[i]? = some d → ∃ v, vs[i]? = some v ∧ Da H d v
  | [], _, _, _, _, e => by simp at e
  | d0 :: ds, _, i, d, h, e => by
    obtain ⟨v, r, rfl, h1, h2⟩ := (show ∃ v r, _ = v :: r ∧ Da H d0 v ∧ DaAll H ds r from h)
    cases i with
    | zero => simp at e; subst e; exact ⟨v, rfl, h1⟩
    | succ i => simpa using DaAll.get h2 (by simpa using e)
theorem DaAll.append : ∀ {ds es : List PyData} {vs us : List V}, DaAll H ds vs → DaAll H es us → DaAll H (ds ++ es) (vs ++ us)
  | [], _, _, _, h, h' => by obtain rfl := (show _ = [] from h); exact h'
  | d0 :: ds, _, _, _, h, h' => by
    obtain ⟨v0, r, rfl, h1, h2⟩ := (show ∃ v r, _ = v :: r ∧ Da H d0 v ∧ DaAll H ds r from h)
    exact daAll_cons h1 (DaAll.append h2 h')
theorem DaAll.snoc {ds : List PyData} {vs : List V} {d : PyData} {v : V} (h : DaAll H ds vs) (h' : Da H d v) : DaAll H (ds ++ [d]) (vs ++ [v]) := h.append (daAll_cons h' daAll_nil)
theorem DaAll.take : ∀ {ds : List PyData} {vs : List V} (n : Nat), DaAll H ds vs → DaAll H (ds.take n) (vs.take n)
  | [], _, n, h => by obtain rfl := (show _ = [] from h); simp [daAll_nil]
  | d0 :: ds, _, n, h => by
    obtain ⟨v0, r, rfl, h1, h2⟩ := (show ∃ v r, _ = v :: r ∧ Da H d0 v ∧ DaAll H ds r from h)
    cases n with
    | zero => exact daAll_nil
    | succ n => exact daAll_cons h1 (DaAll.take n h2)
theorem DaAll.drop : ∀ {ds : List PyData} {vs : List V} (n : Nat), DaAll H ds vs → DaAll H (ds.drop n) (vs.drop n)
  | [], _, n, h => by obtain rfl := (show _ = [] from h); simp [daAll_nil]
  | d0 :: ds, _, n, h => by
    obtain ⟨v0, r, rfl, h1, h2⟩ := (show ∃ v r, _ = v :: r ∧ Da H d0 v ∧ DaAll H ds r from h)
    cases n with
    | zero => exact daAll_cons h1 h2
    | succ n => exact DaAll.drop n h2
theorem daAll_strs : ∀ xs : List Str, DaAll H (xs.map .str) (xs.map V.str)
  | [] => daAll_nil
  | x :: xs => daAll_cons (show V.str x = V.str x from rfl) (daAll_strs xs)
theorem daAll_ints : ∀ xs : List Int, DaAll H (xs.map .int) (xs.map V.int)
  | [] => daAll_nil
  | x :: xs => daAll_cons (show V.int x = V.int x from rfl) (daAll_ints xs)
theorem DaAll.strs : ∀ {xs : List Str} {vs : List V}, DaAll H (xs.map .str) vs → vs = xs.map V.str
  | [], _, h => h
  | x :: xs, vs, h => by
    obtain ⟨v, r, rfl, h1, h2⟩ := (show ∃ v r, _ = v :: r ∧ Da H (.str x) v ∧ DaAll H (xs.map .str) r from h)
    obtain rfl : v = .str x := h1
    rw [DaAll.strs h2]; rfl
theorem DaAll.ints : ∀ {xs : List Int} {vs : List V}, DaAll H (xs.map .int) vs → vs = xs.map V.int
  | [], _, h => h
  | x :: xs, vs, h => by
    obtain ⟨v, r, rfl, h1, h2⟩ := (show ∃ v r, _ = v :: r ∧ Da H (.int x) v ∧ DaAll H (xs.map .int) r from h)
    obtain rfl : v = .int x := h1
    rw [DaAll.ints h2]; rfl
end
/-! ## heaps that grow: F what is told for good, H all -/
structure Gr (F H F2 H2 : Hp) : Prop where
  ff : Same F F2
  fh : Same F2 H2
  hh : Same H H2
  new : ∀ b, F b = none → H b ≠ none → F2 b = none
section
variable {F H F1 H1 F2 H2 F3 H3 : Hp} {p : Addr} {o : HO}
theorem Gr.refl (h : Same F H) : Gr F H F H := ⟨Same.refl _, h, Same.refl _, fun _ e _ => e⟩
theorem Gr.trans (a : Gr F H F1 H1) (b : Gr F1 H1 F2 H2) : Gr F H F2 H2 :=
  ⟨a.ff.trans b.ff, b.fh, a.hh.trans b.hh, fun q e n => b.new q (a.new q e n) (fun z => n (a.hh.free z))⟩
theorem same_upd (h : H p = none) : Same H (upd H p o) := fun b x e => by
  rw [upd_ne (ne_of_none e h)]
  exact e
theorem same_mut (s : Same F H) (h : F p = none) : Same F (upd H p o) := fun b x e => by
  rw [upd_ne (ne_of_none e h)]
  exact s _ _ e
theorem same_both (s : Same F H) : Same (upd F p o) (upd H p o) := fun b x e => by
  by_cases hb : b = p
  · subst hb; rw [upd_same] at e ⊢; exact e
  · rw [upd_ne hb] at e ⊢; exact s _ _ e
/-- a new object that stays open -/
theorem Gr.open' (g : Gr F H F1 H1) (h : H1 p = none) : Gr F H F1 (upd H1 p o) :=
  ⟨g.ff, same_mut g.fh (g.fh.free h), g.hh.trans (same_upd h), g.new⟩
/-- a new object that is told for good -/
theorem Gr.shut (g : Gr F H F1 H1) (h : H1 p = none) : Gr F H (upd F1 p o) (upd H1 p o) :=
  ⟨g.ff.trans (same_upd (g.fh.free h)), same_both g.fh, g.hh.trans (same_upd h), fun b e n => by
    have hb : b ≠ p := fun z => by subst z; exact n (g.hh.free h)
    rw [upd_ne hb]; exact g.new b e n⟩
/-- an open object of our own changes -/
theorem Gr.mut (g : Gr F H F1 H1) (h : H p = none) (h1 : F1 p = none) : Gr F H F1 (upd H1 p o) :=
  ⟨g.ff, same_mut g.fh h1, same_mut g.hh h, g.new⟩
/-- an open object of our own is told for good -/
theorem Gr.tell (g : Gr F H F1 H1) (h : H p = none) (h1 : F1 p = none) (ho : H1 p = some o) : Gr F H (upd F1 p o) H1 :=
  ⟨g.ff.trans (same_upd h1), fun b x e => by
    by_cases hb : b = p
    · subst hb; rw [upd_same] at e; rw [ho]; exact e
    · rw [upd_ne hb] at e; exact g.fh _ _ e, g.hh, fun b e n => by
    have hb : b ≠ p := fun z => by subst z; exact n h
    rw [upd_ne hb]; exact g.new b e n⟩
theorem Gr.da (g : Gr F H F1 H1) {d : PyData} {v : V} (h : Da F d v) : Da F1 d v := h.mono g.ff
theorem Gr.daH (g : Gr F H F1 H1) {d : PyData} {v : V} (h : Da F d v) : Da H1 d v := h.mono (g.ff.trans g.fh)
theorem Gr.f0 (g : Gr F H F1 H1) (h : F p = none) (hH : H p = some o) : F1 p = none := g.new p h (by rw [hH]; exact fun z => nomatch z)
theorem Gr.same (g : Gr F H F1 H1) : Same F H1 := g.ff.trans g.fh
end
/-! ## what running a piece of text wants -/
section
variable (X : Cx)
def WE (e : Expr) (σ : St) (H : Hp) (Q : VK) : Prop := ∀ (pins : List (Addr × Obj)) (s : Shared), Inv X pins σ H s → wpAny (model X.prog X.w) X.A (eval e X.env) (EP X pins σ Q) X.xe s
def WT (e : Expr) (σ : St) (H : Hp) (Q : Bool → Hp → Prop) : Prop := ∀ (pins : List (Addr × Obj)) (s : Shared), Inv X pins σ H s → wpAny (model X.prog X.w) X.A (isTrue e X.env (eval e X.env)) (TP X pins σ Q) X.xe s
def WW (e : Expr) (σ : St) (H : Hp) (Q : Bool → Hp → Prop) : Prop := ∀ (whole : Sem Value) (pins : List (Addr × Obj)) (s : Shared), Inv X pins σ H s → wpAny (model X.prog X.w) X.A (isTrue e X.env whole) (TP X pins σ Q) X.xe s
def WA (es : List Expr) (σ : St) (H : Hp) (Q : List V → Hp → Prop) : Prop := ∀ (pos : Pos) (pins : List (Addr × Obj)) (s : Shared), Inv X pins σ H s → wpAny (model X.prog X.w) X.A (spliced (backTo pos (starEach es X.env))) (AP X pins σ Q) X.xe s
def WS (st : Stmt) (D : Ends) (σ : St) (H : Hp) : Prop := ∀ (pins : List (Addr × Obj)) (s : Shared), Inv X pins σ H s → wpAny (model X.prog X.w) X.A (exec st X.env) (SP X pins D) X.xe s
def WSs (st : List Stmt) (D : Ends) (σ : St) (H : Hp) : Prop := ∀ (pins : List (Addr × Obj)) (s : Shared), Inv X pins σ H s → wpAny (model X.prog X.w) X.A (execs st X.env) (SP X pins D) X.xe s
def WI (tg iter : Expr) (σ : St) (H : Hp) (R : It → Hp → Prop) : Prop := ∀ (pins : List (Addr × Obj)) (s : Shared), Inv X pins σ H s →
  wpAny (model X.prog X.w) X.A (eval iter X.env) (fun v s1 => wpAny (model X.prog X.w) X.A (pyIter v) (PIE X pins σ tg R) X.xe s1) X.xe s
end
section
variable {X : Cx}
theorem pe_we {e : Expr} : PE X e (WE X e) := ⟨fun pins s σ H Q I h => h pins s I⟩
theorem pt_wt {e : Expr} : PT X e (WT X e) := ⟨fun pins s σ H Q I h => h pins s I⟩
theorem pw_ww {e : Expr} : PW X e (WW X e) := ⟨fun whole pins s σ H Q I h => h whole pins s I⟩
theorem pa_wa {es : List Expr} : PA X es (WA X es) := ⟨fun pos pins s σ H Q I h => h pos pins s I⟩
theorem ps_ws {st : Stmt} : PS X st (WS X st) := ⟨fun pins s σ H D I h => h pins s I⟩
theorem pss_wss {st : List Stmt} : PSs X st (WSs X st) := ⟨fun pins s σ H D I h => h pins s I⟩
theorem pi_wi {tg iter : Expr} : PI X tg iter (WI X tg iter) := ⟨fun pins s σ H R I h => h pins s I⟩
theorem we_of {e : Expr} {t : TE} {σ : St} {H : Hp} {Q : VK} (h : PE X e t) (q : t σ H Q) : WE X e σ H Q := fun pins s I => h.run pins s σ H Q I q
theorem wt_of {e : Expr} {t : TT} {σ : St} {H : Hp} {Q : Bool → Hp → Prop} (h : PT X e t) (q : t σ H Q) : WT X e σ H Q := fun pins s I => h.run pins s σ H Q I q
theorem ww_of {e : Expr} {t : TT} {σ : St} {H : Hp} {Q : Bool → Hp → Prop} (h : PW X e t) (q : t σ H Q) : WW X e σ H Q := fun whole pins s I => h.run whole pins s σ H Q I q
theorem wa_of {es : List Expr} {t : TA} {σ : St} {H : Hp} {Q : List V → Hp → Prop} (h : PA X es t) (q : t σ H Q) : WA X es σ H Q := fun pos pins s I => h.run pos pins s σ H Q I q
theorem ws_of {st : Stmt} {t : TS} {σ : St} {H : Hp} {D : Ends} (h : PS X st t) (q : t D σ H) : WS X st D σ H := fun pins s I => h.run pins s σ H D I q
theorem wss_of {st : List Stmt} {t : TS} {σ : St} {H : Hp} {D : Ends} (h : PSs X st t) (q : t D σ H) : WSs X st D σ H := fun pins s I => h.run pins s σ H D I q
theorem wi_of {tg iter : Expr} {t : TI} {σ : St} {H : Hp} {R : It → Hp → Prop} (h : PI X tg iter t) (q : t σ H R) : WI X tg iter σ H R := fun pins s I => h.run pins s σ H R I q
theorem WE.imp {e : Expr} {σ : St} {H : Hp} {Q Q' : VK} (h : WE X e σ H Q) (q : ∀ v H', Q v H' → Q' v H') : WE X e σ H Q' := fun pins s I => thn (h pins s I) fun u s' ⟨v, H', I', r, k⟩ => ⟨v, H', I', r, q v H' k⟩
theorem WT.imp {e : Expr} {σ : St} {H : Hp} {Q Q' : Bool → Hp → Prop} (h : WT X e σ H Q) (q : ∀ v H', Q v H' → Q' v H') : WT X e σ H Q' := fun pins s I => thn (h pins s I) fun u s' ⟨H', I', k⟩ => ⟨H', I', q _ H' k⟩
end
/-! ## expressions that tell data -/
section
variable (X : Cx)
def DE (e : Expr) (σ : St) (F H : Hp) (d : PyData) : Prop := ∀ F1 H1, Gr F H F1 H1 → ∀ Q : VK, (∀ v F2 H2, Gr F1 H1 F2 H2 → Da F2 d v → Q v H2) → WE X e σ H1 Q
def DT (e : Expr) (σ : St) (F H : Hp) (b : Bool) : Prop := ∀ F1 H1, Gr F H F1 H1 → ∀ Q : Bool → Hp → Prop, (∀ F2 H2, Gr F1 H1 F2 H2 → Q b H2) → WT X e σ H1 Q
def DW (e : Expr) (σ : St) (F H : Hp) (b : Bool) : Prop := ∀ F1 H1, Gr F H F1 H1 → ∀ Q : Bool → Hp → Prop, (∀ F2 H2, Gr F1 H1 F2 H2 → Q b H2) → WW X e σ H1 Q
def DL (es : List Expr) (σ : St) (F H : Hp) (ds : List PyData) : Prop := ∀ F1 H1, Gr F H F1 H1 → ∀ Q : List V → Hp → Prop, (∀ vs F2 H2, Gr F1 H1 F2 H2 → DaAll F2 ds vs → Q vs H2) → WA X es σ H1 Q
/-- a value that is known -/
def VE (e : Expr) (σ : St) (F H : Hp) (v : V) : Prop := ∀ F1 H1, Gr F H F1 H1 → ∀ Q : VK, (∀ F2 H2, Gr F1 H1 F2 H2 → Q v H2) → WE X e σ H1 Q
end
section
variable {X : Cx} {σ : St} {F H : Hp} {e a b : Expr} {es : List Expr} {d d1 d2 : PyData} {ds : List PyData} {v : V} {i j : Int} {pos p : Pos} {x : Str}
theorem DE.mono {F' H' : Hp} (g : Gr F H F' H') (h : DE X e σ F H d) : DE X e σ F' H' d := fun F1 H1 g1 => h F1 H1 (g.trans g1)
theorem DT.mono {F' H' : Hp} {c : Bool} (g : Gr F H F' H') (h : DT X e σ F H c) : DT X e σ F' H' c := fun F1 H1 g1 => h F1 H1 (g.trans g1)
theorem VE.mono {F' H' : Hp} (g : Gr F H F' H') (h : VE X e σ F H v) : VE X e σ F' H' v := fun F1 H1 g1 => h F1 H1 (g.trans g1)
theorem DE.go (h : DE X e σ F H d) (s : Same F H) {Q : VK} (q : ∀ v F2 H2, Gr F H F2 H2 → Da F2 d v → Q v H2) : WE X e σ H Q := h F H (.refl s) Q q
theorem VE.go (h : VE X e σ F H v) (s : Same F H) {Q : VK} (q : ∀ F2 H2, Gr F H F2 H2 → Q v H2) : WE X e σ H Q := h F H (.refl s) Q q
theorem DT.go {c : Bool} (h : DT X e σ F H c) (s : Same F H) {Q : Bool → Hp → Prop} (q : ∀ F2 H2, Gr F H F2 H2 → Q c H2) : WT X e σ H Q := h F H (.refl s) Q q
theorem de_of (h : VE X e σ F H v) (hd : Da F d v) : DE X e σ F H d := fun F1 H1 g Q q => h F1 H1 g Q fun F2 H2 g2 => q v F2 H2 g2 (g2.da (g.da hd))
/-- by a rule of the layer that leaves the heap -/
theorem ve_of {t : TE} (h : PE X e t) (q : ∀ F1 H1, Gr F H F1 H1 → ∀ Q : VK, Q v H1 → t σ H1 Q) : VE X e σ F H v := fun F1 H1 g Q k => we_of h (q F1 H1 g Q (k F1 H1 (.refl g.fh)))
/-- names and constants -/
theorem ve_v (k : Nat) {w : V} (h : σ[k]? = some (some w) := by rfl) (hN : X.N[k]? = some x := by rfl) (hv : Vis X.env.scope x := by first | exact Or.inl rfl | exact Or.inr (Or.inl rfl) | exact Or.inr (Or.inr rfl)) (hd : (x == ("__debug__" : Str)) = false := by decide)
    (hcd : (x == ("__classdict__" : Str)) = false := by decide) : VE X (.Name x pos) σ F H w := ve_of (pe_var hN hv hd hcd) fun F1 H1 _ Q q => ⟨w, h, q⟩
theorem de_v (k : Nat) {w : V} (hw : Da F d w) (h : σ[k]? = some (some w) := by rfl) (hN : X.N[k]? = some x := by rfl) (hv : Vis X.env.scope x := by first | exact Or.inl rfl | exact Or.inr (Or.inl rfl) | exact Or.inr (Or.inr rfl)) (hd : (x == ("__debug__" : Str)) = false := by decide)
    (hcd : (x == ("__classdict__" : Str)) = false := by decide) : DE X (.Name x pos) σ F H d := de_of (ve_v k h hN hv hd hcd) hw
theorem de_int {k : Nat} : DE X (.Constant (.int i) k pos) σ F H (.int i) := de_of (v := .int i) (ve_of pe_int fun _ _ _ _ q => q) rfl
theorem de_bool {k : Nat} {c : Bool} : DE X (.Constant (.bool c) k pos) σ F H (.bool c) := de_of (v := .bl c) (ve_of pe_bl fun _ _ _ _ q => q) rfl
/-- two operands -/
theorem de_op {op : Operator} {r : R2} (ho : OpR X (binaryOp op) r) (ha : DE X a σ F H d1) (hb : DE X b σ F H d2) (hr : ∀ x y F1 H1, Gr F H F1 H1 → Da F1 d1 x → Da F1 d2 y → ∀ Q : VK, (∀ v F2 H2, Gr F1 H1 F2 H2 → Da F2 d v → Q v H2) → r x y H1 Q) :
    DE X (.BinOp a op b pos) σ F H d := fun F1 H1 g Q q => we_of (pe_op ho pe_we pe_we) (ha F1 H1 g _ fun x F2 H2 g2 hx => hb F2 H2 (g.trans g2) _ fun y F3 H3 g3 hy =>
      hr x y F3 H3 ((g.trans g2).trans g3) (g3.da hx) hy Q fun v F4 H4 g4 hv => q v F4 H4 ((g2.trans g3).trans g4) hv)
end
end Kr
/-! layer Kr2 -/
namespace Kr
open PySem L2
section
variable {X : Cx} {σ : St} {F H : Hp} {e a b c : Expr} {es : List Expr} {d d1 d2 : PyData} {ds ds' : List PyData} {v : V} {i j k : Int} {pos p : Pos} {x y : Str} {bb cc : Bool}
structure Pl (X : Cx) (e : Expr) (es : List Expr) (pos : Pos) : Prop where
  he : starEach (e :: es) X.env = (false, eval e X.env) :: starEach es X.env
  hpl : (backTo pos (starEach es X.env)).any (·.1) = false
structure Nm (x : Str) : Prop where
  hn : x ≠ "__name__"
  hdb : (x == ("__debug__" : Str)) = false
/-! ### numbers -/
theorem de_I0 {op : Operator} {g : Int → Int → Int} (ho : OpR X (binaryOp op) (rI0 fun i j => .int (g i j))) (ha : DE X a σ F H (.int i)) (hb : DE X b σ F H (.int j)) : DE X (.BinOp a op b pos) σ F H (.int (g i j)) :=
  de_op ho ha hb fun x y F1 H1 g1 hx hy Q q => ⟨i, j, hx, hy, q (.int (g i j)) F1 H1 (.refl g1.fh) rfl⟩
theorem de_I {op : Operator} {C : Int → Int → Prop} {g : Int → Int → Int} (ho : OpR X (binaryOp op) (rI C fun i j => .int (g i j))) (ha : DE X a σ F H (.int i)) (hb : DE X b σ F H (.int j)) (hc : C i j) : DE X (.BinOp a op b pos) σ F H (.int (g i j)) :=
  de_op ho ha hb fun x y F1 H1 g1 hx hy Q q => ⟨i, j, hx, hy, hc, q (.int (g i j)) F1 H1 (.refl g1.fh) rfl⟩
theorem de_add (ha : DE X a σ F H (.int i)) (hb : DE X b σ F H (.int j)) : DE X (.BinOp a .Add b pos) σ F H (.int (i + j)) := de_I0 op_add ha hb
theorem de_mul (ha : DE X a σ F H (.int i)) (hb : DE X b σ F H (.int j)) (hc : CMul i j) : DE X (.BinOp a .Mult b pos) σ F H (.int (i * j)) := de_I op_mul ha hb hc
theorem de_fdiv (ha : DE X a σ F H (.int i)) (hb : DE X b σ F H (.int j)) (hc : CDiv i j) : DE X (.BinOp a .FloorDiv b pos) σ F H (.int (i / j)) := de_I op_fdiv ha hb hc
theorem de_mod (ha : DE X a σ F H (.int i)) (hb : DE X b σ F H (.int j)) (hc : 0 < j) : DE X (.BinOp a .Mod b pos) σ F H (.int (i % j)) := de_I op_mod ha hb hc
theorem de_pow (ha : DE X a σ F H (.int i)) (hb : DE X b σ F H (.int j)) (hc : CPow i j) : DE X (.BinOp a .Pow b pos) σ F H (.int (i ^ j.toNat)) := de_I op_pow ha hb hc
/-- a comparison, as a value or as a test -/
def DC (X : Cx) (op : CmpOp) (a b : Expr) (σ : St) (F H : Hp) (bb : Bool) : Prop := behindInMarks op b = false ∧ ∃ r, OpR X (compareOp op) r ∧ ∀ F1 H1, Gr F H F1 H1 → ∀ Q : VK, (∀ F2 H2, Gr F1 H1 F2 H2 → Q (.bl bb) H2) → tOp r (WE X a) (WE X b) σ H1 Q
theorem de_c {op : CmpOp} (h : DC X op a b σ F H bb) : DE X (.Compare a [op] [b] pos) σ F H (.bool bb) := by
  obtain ⟨hm, r, ho, h⟩ := h
  exact fun F1 H1 g Q q => we_of (pe_cmpR ho pe_we pe_we hm) (h F1 H1 g Q fun F2 H2 g2 => q _ F2 H2 g2 rfl)
theorem dt_c {op : CmpOp} (h : DC X op a b σ F H bb) : DT X (.Compare a [op] [b] pos) σ F H bb := by
  obtain ⟨hm, r, ho, h⟩ := h
  exact fun F1 H1 g Q q => wt_of (pt_cmpR ho pe_we pe_we hm) (h F1 H1 g _ fun F2 H2 g2 => ⟨bb, rfl, q F2 H2 g2⟩)
theorem c_is {op : CmpOp} (h : DC X op a b σ F H bb) (q : bb = cc) : DC X op a b σ F H cc := q ▸ h
theorem c_cmp {op : CmpOp} {r : R2} (ho : OpR X (compareOp op) r) (hm : behindInMarks op b = false) (ha : DE X a σ F H d1) (hb : DE X b σ F H d2) (hr : ∀ x y F1 H1, Gr F H F1 H1 → Da F1 d1 x → Da F1 d2 y → ∀ Q : VK, (∀ v F2 H2, Gr F1 H1 F2 H2 → Da F2 (.bool bb) v → Q v H2) → r x y H1 Q) :
    DC X op a b σ F H bb := ⟨hm, r, ho, fun F1 H1 g Q q => ha F1 H1 g _ fun x F2 H2 g2 hx => hb F2 H2 (g.trans g2) _ fun y F3 H3 g3 hy =>
      hr x y F3 H3 ((g.trans g2).trans g3) (g3.da hx) hy Q fun v F4 H4 g4 hv => by obtain rfl : v = .bl bb := hv; exact q F4 H4 ((g2.trans g3).trans g4)⟩
theorem c_cI {op : CmpOp} {g : Int → Int → Bool} (ho : OpR X (compareOp op) (rI0 fun i j => .bl (g i j))) (hm : behindInMarks op b = false) (ha : DE X a σ F H (.int i)) (hb : DE X b σ F H (.int j)) : DC X op a b σ F H (g i j) :=
  c_cmp ho hm ha hb fun x y F1 H1 g1 hx hy Q q => ⟨i, j, hx, hy, q (.bl (g i j)) F1 H1 (.refl g1.fh) rfl⟩
theorem c_lt (ha : DE X a σ F H (.int i)) (hb : DE X b σ F H (.int j)) : DC X .Lt a b σ F H (decide (i < j)) := c_cI op_lt (nomark _) ha hb
theorem c_ge (ha : DE X a σ F H (.int i)) (hb : DE X b σ F H (.int j)) : DC X .GtE a b σ F H (decide (j ≤ i)) := c_cI op_ge (nomark _) ha hb
/-- i <= j <= k -/
theorem de_lele (ha : DE X a σ F H (.int i)) (hb : DE X b σ F H (.int j)) (hc : DE X c σ F H (.int k)) (hm : lastMarks [.LtE, .LtE] [b, c] = false := by with_unfolding_all rfl) : DE X (.Compare a [.LtE, .LtE] [b, c] pos) σ F H (.bool (decide (i ≤ j) && decide (j ≤ k))) := fun F1 H1 g Q q =>
  we_of (pe_chain op_le op_le pe_we pe_we pe_we hm) (ha F1 H1 g _ fun x F2 H2 g2 hx => hb F2 H2 (g.trans g2) _ fun y F3 H3 g3 hy => by
    refine ⟨i, j, hx, hy, _, rfl, ?_⟩
    by_cases hij : i ≤ j
    · rw [decide_eq_true hij]
      refine iteT (hc F3 H3 ((g.trans g2).trans g3) _ fun z F4 H4 g4 hz => ⟨j, k, hy, hz, ?_⟩)
      exact q _ F4 H4 ((g2.trans g3).trans g4) (by show V.bl _ = V.bl _; simp [hij])
    · rw [decide_eq_false hij]
      exact iteF (q _ F3 H3 (g2.trans g3) (by show V.bl _ = V.bl _; simp [hij])))
/-- i <= j <= k -/
theorem dt_lele (ha : DE X a σ F H (.int i)) (hb : DE X b σ F H (.int j)) (hc : DE X c σ F H (.int k)) (hm : lastMarks [.LtE, .LtE] [b, c] = false := by with_unfolding_all rfl) : DT X (.Compare a [.LtE, .LtE] [b, c] pos) σ F H (decide (i ≤ j) && decide (j ≤ k)) := fun F1 H1 g Q q =>
  wt_of (pt_chain op_le op_le pe_we pe_we pe_we hm) (ha F1 H1 g _ fun x F2 H2 g2 hx => hb F2 H2 (g.trans g2) _ fun y F3 H3 g3 hy => by
    refine ⟨i, j, hx, hy, _, rfl, ?_⟩
    by_cases hij : i ≤ j
    · rw [decide_eq_true hij]
      refine iteT (hc F3 H3 ((g.trans g2).trans g3) _ fun z F4 H4 g4 hz => ⟨j, k, hy, hz, _, rfl, ?_⟩)
      have := q F4 H4 ((g2.trans g3).trans g4)
      simpa [hij] using this
    · rw [decide_eq_false hij]
      have := q F3 H3 (g2.trans g3)
      exact iteF ⟨_, rfl, by simpa [hij] using this⟩)
/-! ### equality -/
theorem c_eq (hu : X.A.units + 64 < cLine) (ha : DE X a σ F H d1) (hb : DE X b σ F H d2) (h1 : SeqAt.shaped d1 = true) (h2 : SeqAt.shaped d2 = true) : DC X .Eq a b σ F H (PyData.eqv d1 d2) :=
  c_cmp (op_eqD hu) (nomark _) ha hb fun x y F1 H1 g1 hx hy Q q => ⟨d1, d2, (hx.mono g1.fh).dp (SeqAt.canLay_of_shaped h1), (hy.mono g1.fh).dp (SeqAt.canLay_of_shaped h2), h1, h2, q (.bl _) F1 H1 (.refl g1.fh) rfl⟩
theorem c_eqI (ha : DE X a σ F H (.int i)) (hb : DE X b σ F H (.int j)) : DC X .Eq a b σ F H (decide (i = j)) :=
  c_cmp op_eq (nomark _) ha hb fun x y F1 H1 g1 hx hy Q q => by
    obtain rfl : x = .int i := hx
    obtain rfl : y = .int j := hy
    exact ⟨rfl, q _ F1 H1 (.refl g1.fh) (by show V.bl _ = V.bl _; simp)⟩
theorem c_neI (ha : DE X a σ F H (.int i)) (hb : DE X b σ F H (.int j)) : DC X .NotEq a b σ F H (!decide (i = j)) :=
  c_cmp op_ne (nomark _) ha hb fun x y F1 H1 g1 hx hy Q q => by
    obtain rfl : x = .int i := hx
    obtain rfl : y = .int j := hy
    exact ⟨rfl, q _ F1 H1 (.refl g1.fh) (by show V.bl _ = V.bl _; simp)⟩
/-! ### truth -/
theorem dt_val (h : DE X e σ F H (.bool bb)) (he : ∀ whole, isTrue e X.env whole = (do let v ← whole; standAt e.pos; holding [v] (truthy v)) := by intro _; rfl) : DT X e σ F H bb := fun F1 H1 g Q q =>
  wt_of (pt_val pe_we he) (h F1 H1 g _ fun v F2 H2 g2 hv => ⟨bb, hv, q F2 H2 g2⟩)
theorem DT.of_w (h : DW X e σ F H bb) : DT X e σ F H bb := fun F1 H1 g Q q => wt_of (PW.pt pw_ww) (h F1 H1 g Q q)
theorem dt_not (h : DT X a σ F H bb) : DT X (.UnaryOp .Not a pos) σ F H (!bb) := fun F1 H1 g Q q => wt_of (pt_not pt_wt) (h F1 H1 g _ fun F2 H2 g2 => q F2 H2 g2)
theorem dt_is_w (h : DW X e σ F H bb) (q : bb = cc) : DW X e σ F H cc := q ▸ h
theorem dw_or1 (h : DT X a σ F H bb) : DW X (.BoolOp .Or [a] pos) σ F H bb := fun F1 H1 g Q q => ww_of (pw_or1 pt_wt) (h F1 H1 g Q q)
theorem dw_or (h : DT X a σ F H bb) (h2 : bb = false → DW X (.BoolOp .Or (b :: es) pos) σ F H cc) : DW X (.BoolOp .Or (a :: b :: es) pos) σ F H (bb || cc) := fun F1 H1 g Q q =>
  ww_of (pw_or pt_wt pw_ww) (h F1 H1 g _ fun F2 H2 g2 => by
    cases bb with
    | true => exact iteT (q F2 H2 g2)
    | false => exact iteF (h2 rfl F2 H2 (g.trans g2) _ fun F3 H3 g3 => q F3 H3 (g2.trans g3)))
theorem de_one {op} (h : DE X a σ F H d) : DE X (.BoolOp op [a] pos) σ F H d := fun F1 H1 g Q q => we_of (pe_one pe_we) (h F1 H1 g Q q)
theorem de_and (h : DE X a σ F H (.bool bb)) (h2 : bb = true → DE X (.BoolOp .And (b :: es) pos) σ F H (.bool cc)) : DE X (.BoolOp .And (a :: b :: es) pos) σ F H (.bool (bb && cc)) := fun F1 H1 g Q q =>
  we_of (pe_and pe_we pe_we) (h F1 H1 g _ fun v F2 H2 g2 hv => ⟨bb, hv, by
    cases bb with
    | true => exact iteT (h2 rfl F2 H2 (g.trans g2) _ fun w F3 H3 g3 hw => q w F3 H3 (g2.trans g3) hw)
    | false => exact iteF (q _ F2 H2 g2 rfl)⟩)
/-! ### argument lists, displays -/
theorem dl_nil : DL X [] σ F H [] := fun F1 H1 g Q q => wa_of pa_nil (q [] F1 H1 (.refl g.fh) daAll_nil)
theorem dl_cons (h : DE X e σ F H d) (t : DL X es σ F H ds) (hs : starEach (e :: es) X.env = (false, eval e X.env) :: starEach es X.env := by rfl) : DL X (e :: es) σ F H (d :: ds) := fun F1 H1 g Q q =>
  wa_of (pa_cons pe_we pa_wa hs) (h F1 H1 g _ fun v F2 H2 g2 hv => t F2 H2 (g.trans g2) _ fun vs F3 H3 g3 hvs => q (v :: vs) F3 H3 (g2.trans g3) (daAll_cons (g3.da hv) hvs))
theorem de_lst (h : DL X es σ F H ds) (hz : ds.length ≤ sizeLine := by decide) : DE X (.List es pos) σ F H (.list ds) := fun F1 H1 g Q q =>
  we_of (pe_lst pa_wa) (h F1 H1 g _ fun vs F2 H2 g2 hvs => ⟨by rw [hvs.length]; exact hz, fun p hp => q (.ref p) (upd F2 p (.lst vs)) _ (g2.shut hp) ⟨p, vs, rfl, upd_same, hvs.mono (same_upd (g2.fh.free hp))⟩⟩)
/-! ### items -/
theorem DaAll.atI {H : Hp} {ds : List PyData} {vs : List V} {i : Int} {d : PyData} (h : DaAll H ds vs) (e : L2.atI ds i = some d) : ∃ v, L2.atI vs i = some v ∧ Da H d v := by
  unfold L2.atI at e ⊢
  rw [h.length]
  cases hj : ixN ds.length i with
  | none => rw [hj] at e; simp at e
  | some j =>
    rw [hj] at e
    exact h.get (by simpa using e)
theorem de_ixT (ha : DE X a σ F H (.tuple ds)) (hb : DE X b σ F H (.int i)) (h : L2.atI ds i = some d) (hs : PlainIx b := by exact fun _ _ => rfl) : DE X (.Subscript a b pos) σ F H d := fun F1 H1 g Q q =>
  we_of (pe_ix ix_tup pe_we pe_we hs) (ha F1 H1 g _ fun x F2 H2 g2 hx => hb F2 H2 (g.trans g2) _ fun y F3 H3 g3 hy => by
    obtain ⟨p, vs, rfl, h1, h2⟩ := hx
    obtain ⟨v, hv, hd⟩ := h2.atI h
    exact ⟨p, vs, i, v, rfl, hy, SqT.of (g3.same _ _ h1), hv, q v F3 H3 (g2.trans g3) (g3.da hd)⟩)
theorem de_ixL (ha : DE X a σ F H (.list ds)) (hb : DE X b σ F H (.int i)) (h : L2.atI ds i = some d) (hs : PlainIx b := by exact fun _ _ => rfl) : DE X (.Subscript a b pos) σ F H d := fun F1 H1 g Q q =>
  we_of (pe_ix ix_list pe_we pe_we hs) (ha F1 H1 g _ fun x F2 H2 g2 hx => hb F2 H2 (g.trans g2) _ fun y F3 H3 g3 hy => by
    obtain ⟨p, vs, rfl, h1, h2⟩ := hx
    obtain ⟨v, hv, hd⟩ := h2.atI h
    exact ⟨p, vs, i, v, rfl, hy, SqL.of (g3.same _ _ h1), hv, q v F3 H3 (g2.trans g3) (g3.da hd)⟩)
/-! ### calls of what is built in -/
theorem de_callB {id : String} {r : List V → Hp → VK → Prop} (hc : CallR X (.builtin id) r) (hg : Gl X x) (hm : X.mg x = none) (hv : bootBuiltins x = some (.builtin id)) (ha : DL X (e :: es) σ F H ds)
    (hr : ∀ vs F1 H1, Gr F H F1 H1 → DaAll F1 ds vs → ∀ Q : VK, (∀ v F2 H2, Gr F1 H1 F2 H2 → Da F2 d v → Q v H2) → r vs H1 Q)
    (n : Nm x) (l : Pl X e es pos) : DE X (.Call (.Name x p) (e :: es) [] pos) σ F H d := fun F1 H1 g Q q =>
  we_of (pe_callB hc hg hm hv pa_wa n.hn n.hdb l.he l.hpl) (ha F1 H1 g _ fun vs F2 H2 g2 hvs => hr vs F2 H2 (g.trans g2) hvs Q fun v F3 H3 g3 hv => q v F3 H3 (g2.trans g3) hv)
theorem de_callTy {T : String} {r : List V → Hp → VK → Prop} (hc : CallR X (.type T) r) (hg : Gl X x) (hm : X.mg x = none) (hv : bootBuiltins x = some (.type T)) (ha : DL X (e :: es) σ F H ds)
    (hr : ∀ vs F1 H1, Gr F H F1 H1 → DaAll F1 ds vs → ∀ Q : VK, (∀ v F2 H2, Gr F1 H1 F2 H2 → Da F2 d v → Q v H2) → r vs H1 Q)
    (n : Nm x) (l : Pl X e es pos) : DE X (.Call (.Name x p) (e :: es) [] pos) σ F H d := fun F1 H1 g Q q =>
  we_of (pe_callTy hc hg hm hv pa_wa n.hn n.hdb l.he l.hpl) (ha F1 H1 g _ fun vs F2 H2 g2 hvs => hr vs F2 H2 (g.trans g2) hvs Q fun v F3 H3 g3 hv => q v F3 H3 (g2.trans g3) hv)
theorem daAll1 {H : Hp} {vs : List V} (h : DaAll H [d] vs) : ∃ v, vs = [v] ∧ Da H d v := by
  obtain ⟨v, r, rfl, h1, h2⟩ := h
  obtain rfl : r = [] := h2
  exact ⟨v, rfl, h1⟩
theorem daAll2 {H : Hp} {vs : List V} (h : DaAll H [d1, d2] vs) : ∃ v u, vs = [v, u] ∧ Da H d1 v ∧ Da H d2 u := by
  obtain ⟨v, r, rfl, h1, h2⟩ := h
  obtain ⟨u, rfl, h3⟩ := daAll1 h2
  exact ⟨v, u, rfl, h1, h3⟩
theorem de_lenL (hm : X.mg "len" = none) (ha : DE X e σ F H (.list ds)) (hg : Gl X "len" := by rfl) (l : Pl X e [] pos := by exact ⟨rfl, rfl⟩) : DE X (.Call (.Name "len" p) [e] [] pos) σ F H (.int ds.length) :=
  de_callB call_len hg hm PySem.boot_len (dl_cons ha dl_nil l.he) (fun vs F1 H1 g1 hv Q q => by
    obtain ⟨v, rfl, a, xs, rfl, h1, h2⟩ := daAll1 hv
    exact ⟨_, xs.length, rfl, .inl ⟨xs, SqL.of (g1.fh _ _ h1), rfl⟩, q _ F1 H1 (.refl g1.fh) (by rw [h2.length]; rfl)⟩) ⟨by decide, by decide⟩ l
theorem de_lenT (hm : X.mg "len" = none) (ha : DE X e σ F H (.tuple ds)) (hg : Gl X "len" := by rfl) (l : Pl X e [] pos := by exact ⟨rfl, rfl⟩) : DE X (.Call (.Name "len" p) [e] [] pos) σ F H (.int ds.length) :=
  de_callB call_len hg hm PySem.boot_len (dl_cons ha dl_nil l.he) (fun vs F1 H1 g1 hv Q q => by
    obtain ⟨v, rfl, a, xs, rfl, h1, h2⟩ := daAll1 hv
    exact ⟨_, xs.length, rfl, .inr ⟨xs, SqT.of (g1.fh _ _ h1), rfl⟩, q _ F1 H1 (.refl g1.fh) (by rw [h2.length]; rfl)⟩) ⟨by decide, by decide⟩ l
theorem de_lenS {z : Str} (hm : X.mg "len" = none) (ha : DE X e σ F H (.str z)) (hz : z.length ≤ sizeLine) (hg : Gl X "len" := by rfl) (l : Pl X e [] pos := by exact ⟨rfl, rfl⟩) : DE X (.Call (.Name "len" p) [e] [] pos) σ F H (.int z.length) :=
  de_callB call_len hg hm PySem.boot_len (dl_cons ha dl_nil l.he) (fun vs F1 H1 g1 hv Q q => by
    obtain ⟨v, rfl, h1⟩ := daAll1 hv
    obtain rfl : v = .str z := h1
    exact ⟨_, z.length, rfl, ⟨hz, rfl⟩, q _ F1 H1 (.refl g1.fh) rfl⟩) ⟨by decide, by decide⟩ l
theorem daAll_rep {H : Hp} {vs : List V} (h : DaAll H ds vs) : ∀ n : Nat, DaAll H (List.replicate n ds).flatten (List.replicate n vs).flatten
  | 0 => daAll_nil
  | n + 1 => by
    rw [List.replicate_succ, List.replicate_succ, List.flatten_cons, List.flatten_cons]
    exact h.append (daAll_rep h n)
/-! ### isinstance -/
def tyName : PyData → String
  | .none => "NoneType"
  | .bool _ => "bool"
  | .int _ => "int"
  | .str _ => "str"
  | .list _ => "list"
  | .tuple _ => "tuple"
  | .dict _ => "dict"
theorem da_ty {K : PySem.W.Frag} {H : Hp} {d : PyData} {v : V} (h : Da H d v) (nx : noEx d = true) : TyX K H v (.type (tyName d)) := by
  cases d with
  | none => obtain rfl : v = .non := h; exact .base .non
  | bool c => obtain rfl : v = .bl c := h; exact .base (.bl c)
  | int c => obtain rfl : v = .int c := h; exact .base (.int c)
  | str c => obtain rfl : v = .str c := h; exact .base (.str c)
  | list ds => obtain ⟨p, vs, rfl, h1, h2⟩ := h; exact .base (.lst h1)
  | tuple ds => obtain ⟨p, vs, rfl, h1, h2⟩ := h; exact .base (.tup h1)
  | dict _ => obtain ⟨p, es, rfl, h1, h2⟩ := Da.dict h nx; exact h1.elim (fun z => .base (.dK z)) fun ⟨_, z⟩ => .fDict z
theorem de_isi {T : Str} {tn : String} {q1 q2 : Pos} (hm : X.mg "isinstance" = none) (hmT : X.mg T = none) (ha : DE X e σ F H d) (hb : kitB (tyName d) tn = some bb) (hv : bootBuiltins T = some (.type tn) := by decide +kernel) (hg : Gl X "isinstance" := by rfl) (hgT : Gl X T := by rfl) (n : Nm T := by exact ⟨by decide, by decide⟩)
    (l : Pl X e [.Name T pos] q2 := by exact ⟨rfl, rfl⟩) (l2 : starEach [.Name T pos] X.env = [(false, eval (.Name T pos) X.env)] := by rfl) (nx : noEx d = true := by first | rfl | assumption) : DE X (.Call (.Name "isinstance" q1) [e, .Name T pos] [] q2) σ F H (.bool bb) := fun F1 H1 g Q q =>
  we_of (pe_callB call_isi hg hm (by decide +kernel) (pa_cons pe_we (pa_cons (pe_bltn (v := .ty tn) hgT hmT hv rfl n.hn n.hdb) pa_nil l2) l.he) (by decide) (by decide) l.he l.hpl) (ha F1 H1 g _ fun v F2 H2 g2 hv2 =>
    ⟨v, .ty tn, .type (tyName d), .type tn, bb, rfl, .ty tn, da_ty (hv2.mono g2.fh) nx, kit_ty hb, q _ F2 H2 g2 rfl⟩)
end
end Kr
/-! layer Kr3 -/
namespace Kr
open PySem L2
/-! ## targets -/
def WG (X : Cx) (tg : Expr) : TG := fun v σ H Q => ∀ (pins : List (Addr × Obj)) (s : Shared) (u : Value), Inv X pins σ H s → RelV v u →
  wpAny (model X.prog X.w) X.A (assign tg X.env u) (fun _ s' => ∃ σ' H', Inv X pins σ' H' s' ∧ Q σ' H') X.xe s
theorem pg_wg {X : Cx} {tg : Expr} : PG X tg (WG X tg) := ⟨fun pins s σ H v u Q I r h => h pins s u I r⟩
theorem wg_of {X : Cx} {tg : Expr} {t : TG} {v : V} {σ : St} {H : Hp} {Q : St → Hp → Prop} (h : PG X tg t) (q : t v σ H Q) : WG X tg v σ H Q := fun pins s u I r => h.run pins s σ H v u Q I r q
section
variable {X : Cx} {σ : St} {F H : Hp} {v : V} {Q : St → Hp → Prop} {x : Str} {pos : Pos} {t1 t2 t3 : Expr} {d1 d2 d3 : PyData}
theorem wg_name (i : Nat) (hN : X.N.Nodup) (q : Q (σ.set i (some v)) H) (hi : X.N[i]? = some x := by rfl) (hx : Loc X.env.scope x := by first | exact .inl rfl | exact .inr rfl) (hf : X.fn x = true ∨ X.env.scope.names.lookup x = some .local := by first | exact .inl rfl | exact .inr rfl) : WG X (.Name x pos) v σ H Q := wg_of (pg_name hN hi hx hf) q
/-- o[i] = v of an open list -/
theorem wg_sub {o i : Expr} {l : Addr} {xs : List V} {k : Int} {j : Nat} (ho : VE X o σ F H (.ref l)) (hi : DE X i σ F H (.int k)) (s : Same F H) (hl : H l = some (.lst xs)) (hj : ixN xs.length k = some j) (q : ∀ F2 H2, Gr F H F2 H2 → Q σ (upd H2 l (.lst (xs.set j v))))
    (ha : ∀ v, assign (.Subscript o i pos) X.env v = (do
      let ov ← holding [v] (eval o X.env)
      let iv ← holding [v, ov] (eval i X.env)
      standAt pos
      holding [v, ov, iv] (setItem ov iv v)
      release [v, ov, iv] []) := by intro _; rfl) : WG X (.Subscript o i pos) v σ H Q :=
  wg_of (pg_sub pe_we pe_we set_list ha) (ho F H (.refl s) _ fun F2 H2 g2 => hi F2 H2 g2 _ fun y F3 H3 g3 hy => ⟨l, xs, k, j, rfl, hy, (g2.trans g3).hh _ _ hl, hj, q F3 H3 (g2.trans g3)⟩)
end
/-! ## what is walked -/
def Walks (J : It) (F2 : Hp) (ds : List PyData) : Prop := ∀ F3 H3, Same F2 F3 → Same F3 H3 →
  (∀ (i : Nat) d, ds[i]? = some d → J.go i H3 ∧ ∀ x H4, J.yld i H3 x H4 → ∃ F4, Gr F3 H3 F4 H4 ∧ Da F4 d x) ∧ J.stop ds.length H3
/-- .. leaving the heap at each turn -/
def Walks0 (J : It) (F2 : Hp) (ds : List PyData) : Prop := ∀ F3 H3, Same F2 F3 → Same F3 H3 →
  (∀ (i : Nat) d, ds[i]? = some d → J.go i H3 ∧ ∀ x H4, J.yld i H3 x H4 → H4 = H3 ∧ Da F3 d x) ∧ J.stop ds.length H3
theorem Walks0.w {J : It} {F2 : Hp} {ds : List PyData} (h : Walks0 J F2 ds) : Walks J F2 ds := fun F3 H3 s1 s2 => ⟨fun i d e => ⟨((h F3 H3 s1 s2).1 i d e).1, fun x H4 y => by
  obtain ⟨rfl, hd⟩ := ((h F3 H3 s1 s2).1 i d e).2 x H4 y
  exact ⟨F3, .refl s2, hd⟩⟩, (h F3 H3 s1 s2).2⟩
def DI (X : Cx) (tg iter : Expr) (σ : St) (F H : Hp) (ds : List PyData) : Prop := ∀ F1 H1, Gr F H F1 H1 → ∀ R : It → Hp → Prop, (∀ J F2 H2, Gr F1 H1 F2 H2 → Walks J F2 ds → R J H2) → WI X tg iter σ H1 R
def DI0 (X : Cx) (tg iter : Expr) (σ : St) (F H : Hp) (ds : List PyData) : Prop := ∀ F1 H1, Gr F H F1 H1 → ∀ R : It → Hp → Prop, (∀ J F2 H2, Gr F1 H1 F2 H2 → Walks0 J F2 ds → R J H2) → WI X tg iter σ H1 R
theorem DI0.i {X : Cx} {tg iter : Expr} {σ : St} {F H : Hp} {ds : List PyData} (h : DI0 X tg iter σ F H ds) : DI X tg iter σ F H ds := fun F1 H1 g R q => h F1 H1 g R fun J F2 H2 g2 w => q J F2 H2 g2 w.w
theorem getV {H : Hp} {ds : List PyData} {xs : List V} {i : Nat} {d : PyData} {x : V} (h : DaAll H ds xs) (e : ds[i]? = some d) (ex : xs[i]? = some x) : Da H d x := by
  obtain ⟨v, hv, hd⟩ := h.get e
  rw [ex] at hv; cases hv; exact hd
section
variable {X : Cx} {tg e e2 : Expr} {σ : St} {F H : Hp} {ds es : List PyData} {i j : Int} {pos p : Pos} {x : Str}
theorem di_list (h : DE X e σ F H (.list ds)) : DI0 X tg e σ F H ds := fun F1 H1 g R q => wi_of (pi_list pe_we) (h F1 H1 g _ fun v F2 H2 g2 hv => by
  obtain ⟨a, xs, rfl, h1, h2⟩ := hv
  refine ⟨a, rfl, ⟨xs, SqL.of (g2.fh _ _ h1)⟩, q _ F2 H2 g2 fun F3 H3 s1 s2 => ⟨fun i d e => ?_, xs, SqL.of (s2 _ _ (s1 _ _ h1)), by rw [h2.length]; exact Nat.le_refl _⟩⟩
  obtain ⟨v, hv, hd⟩ := h2.get e
  exact ⟨⟨xs, v, SqL.of (s2 _ _ (s1 _ _ h1)), hv⟩, fun x H4 y => ⟨y.1, (getV h2 e (y.2 xs (SqL.of (s2 _ _ (s1 _ _ h1))))).mono s1⟩⟩)
def signsD (z : Str) : List PyData := z.cps.toList.map fun c => .str ⟨#[c]⟩
theorem di_str {z : Str} (h : DE X e σ F H (.str z)) : DI0 X tg e σ F H (signsD z) := fun F1 H1 g R q => wi_of (pi_str pe_we) (h F1 H1 g _ fun v F2 H2 g2 hv => by
  refine ⟨z, hv, q _ F2 H2 g2 fun F3 H3 s1 s2 => ⟨fun i d e => ?_, by show z.cps.size ≤ _; simp [signsD]⟩⟩
  unfold signsD at e
  rw [List.getElem?_map] at e
  cases hc : z.cps.toList[i]? with
  | none => rw [hc] at e; simp at e
  | some c =>
    rw [hc] at e
    have e' : PyData.str ⟨#[c]⟩ = d := by simpa using e
    subst e'
    have hlt : i < z.cps.size := by
      have := (List.getElem?_eq_some_iff.mp hc).1
      simpa using this
    refine ⟨hlt, fun x H4 y => ⟨y.1, ?_⟩⟩
    obtain ⟨c', hc', rfl⟩ := y.2
    have : some c' = some c := by rw [← hc', ← hc]; simp
    cases this
    rfl)
/-- the intsD from i on, below j -/
def intsD (i j : Int) : List PyData := (List.range (j - i).toNat).map fun k => .int (i + (k : Nat))
theorem intsD_length {i j : Int} : (intsD i j).length = (j - i).toNat := by simp [intsD]
theorem intsD_get {i j : Int} {k : Nat} {d : PyData} (h : (intsD i j)[k]? = some d) : d = .int (i + k) ∧ k < (j - i).toNat := by
  unfold intsD at h
  rw [List.getElem?_map] at h
  cases hc : (List.range (j - i).toNat)[k]? with
  | none => rw [hc] at h; simp at h
  | some c =>
    rw [hc] at h
    obtain ⟨hl, e⟩ := List.getElem?_eq_some_iff.mp hc
    simp at e hl
    subst e
    simp at h
    exact ⟨h.symm, by omega⟩
theorem walks_rng (i : Int) (n : Nat) {F2 : Hp} {j : Int} (hn : n = (j - i).toNat) : Walks0 (Itr i n) F2 (intsD i j) := fun F3 H3 s1 s2 => ⟨fun k d e => by
  obtain ⟨rfl, hk⟩ := intsD_get e
  exact ⟨by show k < n; omega, fun x H4 y => ⟨y.1, y.2⟩⟩, by show n ≤ _; rw [intsD_length]; omega⟩
def enumsD (ds : List PyData) : List PyData := ds.mapIdx fun k d => .tuple [.int (k : Nat), d]
end
/-! ## statements -/
section
variable {X : Cx} {σ : St} {F H : Hp} {e c : Expr} {d : PyData} {v : V} {D : Ends} {st : Stmt} {rest body orelse : List Stmt} {x : Str} {pos p : Pos} {b : Bool}
theorem ss_nil (q : D.nx σ H) : WSs X [] D σ H := wss_of pss_nil q
theorem ss_cons (h : WS X st { D with nx := WSs X rest D } σ H) : WSs X (st :: rest) D σ H := wss_of (pss_cons ps_ws pss_wss) h
theorem WS.nx {M N : St → Hp → Prop} (h : WS X st { D with nx := M } σ H) (k : ∀ σ' H', M σ' H' → N σ' H') : WS X st { D with nx := N } σ H := fun pins s I => thn (h pins s I) fun f s' q => by
  cases f with
  | next => obtain ⟨σ', H', I', q⟩ := q; exact ⟨σ', H', I', k σ' H' q⟩
  | brk => exact q
  | cont => exact q
  | ret u => exact q
theorem ss_one (h : WS X st D σ H) : WSs X [st] D σ H := wss_of (pss_one ps_ws) h
theorem ws_set (i : Nat) (hN : X.N.Nodup) (h : WE X e σ H fun v H1 => D.nx (σ.set i (some v)) H1) (hs : swapsWith e (some (.Name x p)) pos.line X.env = pure false := by rfl) (hi : X.N[i]? = some x := by rfl) (hx : Loc X.env.scope x := by first | exact .inl rfl | exact .inr rfl)
    (hf : X.fn x = true ∨ X.env.scope.names.lookup x = some .local := by first | exact .inl rfl | exact .inr rfl) : WS X (.Assign [.Name x p] e pos) D σ H := ws_of (ps_set hN hi hx pe_we hs hf) h
theorem ws_ret (h : WE X e σ H D.rt) : WS X (.Return (some e) pos) D σ H := ws_of (ps_ret pe_we) h
theorem ws_expr (h : WE X e σ H fun _ H1 => D.nx σ H1) (hs : swapsWith e none pos.line X.env = pure false := by rfl) : WS X (.Expr e pos) D σ H := ws_of (ps_expr pe_we hs) h
theorem ws_if (h : WT X c σ H fun b H1 => if b = true then WSs X body D σ H1 else WSs X orelse D σ H1) : WS X (.If c body orelse pos) D σ H := ws_of (ps_if pt_wt pss_wss pss_wss) h
theorem ws_ifD (h : DT X c σ F H b) (s : Same F H) (h1 : b = true → ∀ F2 H2, Gr F H F2 H2 → WSs X body D σ H2) (h2 : b = false → ∀ F2 H2, Gr F H F2 H2 → WSs X orelse D σ H2) : WS X (.If c body orelse pos) D σ H :=
  ws_if (h.go s fun F2 H2 g => by
    cases b with
    | true => exact iteT (h1 rfl F2 H2 g)
    | false => exact iteF (h2 rfl F2 H2 g))
theorem ws_setD (i : Nat) (hN : X.N.Nodup) (h : DE X e σ F H d) (s : Same F H) (q : ∀ v F2 H2, Gr F H F2 H2 → Da F2 d v → D.nx (σ.set i (some v)) H2) (hs : swapsWith e (some (.Name x p)) pos.line X.env = pure false := by rfl) (hi : X.N[i]? = some x := by rfl) (hx : Loc X.env.scope x := by first | exact .inl rfl | exact .inr rfl)
    (hf : X.fn x = true ∨ X.env.scope.names.lookup x = some .local := by first | exact .inl rfl | exact .inr rfl) : WS X (.Assign [.Name x p] e pos) D σ H := ws_set i hN (h.go s q) hs hi hx hf
theorem ws_retD (h : DE X e σ F H d) (s : Same F H) (q : ∀ v F2 H2, Gr F H F2 H2 → Da F2 d v → D.rt v H2) : WS X (.Return (some e) pos) D σ H := ws_ret (h.go s q)
theorem ws_asg {tg : Expr} (h : WE X e σ H fun v H1 => WG X tg v σ H1 D.nx) (hs : swapsWithSole [tg] e pos.line X.env = pure false := by rfl) (hw : swappedStores [tg] e X.env = pure none := by rfl)
    (h1 : (assignEach [tg] X.env).map (·.2) = [assign tg X.env] := by rfl) : WS X (.Assign [tg] e pos) D σ H := ws_of (ps_asg pe_we pg_wg hs hw h1) h
/-- while, by a measure -/
theorem ws_while (hp : PassesOwn (model X.prog X.w) X.A X.env X.xe) (W : Nat → St → Hp → Prop) (m0 : Nat) (h0 : W m0 σ H)
    (hs : ∀ m σ' H', W m σ' H' → WT X c σ' H' fun b H1 => if b = true then WSs X body { D with nx := fun σ2 H2 => ∃ m', m' < m ∧ W m' σ2 H2, ct := fun σ2 H2 => ∃ m', m' < m ∧ W m' σ2 H2, bk := D.nx } σ' H1 else D.nx σ' H1) : WS X (.While c body [] pos) D σ H :=
  ws_of (ps_while hp pt_wt pss_wss) ⟨W, ⟨m0, h0⟩, fun m σ' H' w => (hs m σ' H' w).imp fun b H1 q => by
    cases b with
    | true => exact ⟨fun σ2 H2 => ∃ m', m' < m ∧ W m' σ2 H2, fun _ _ z => z, q⟩
    | false => exact q⟩
end
end Kr
/-! layer Kr4 -/
namespace Kr
open PySem L2
/-! ## comprehensions -/
def DEt (t : TE) (σ : St) (F H : Hp) (d : PyData) : Prop := ∀ F1 H1, Gr F H F1 H1 → ∀ Q : VK, (∀ v F2 H2, Gr F1 H1 F2 H2 → Da F2 d v → Q v H2) → t σ H1 Q
def DTt (t : TT) (σ : St) (F H : Hp) (b : Bool) : Prop := ∀ F1 H1, Gr F H F1 H1 → ∀ Q : Bool → Hp → Prop, (∀ F2 H2, Gr F1 H1 F2 H2 → Q b H2) → t σ H1 Q
def TG.Mono (g : TG) : Prop := ∀ v σ H (Q Q' : St → Hp → Prop), (∀ σ' H', Q σ' H' → Q' σ' H') → g v σ H Q → g v σ H Q'
theorem WG.mono {X : Cx} {tg : Expr} {v : V} {σ : St} {H : Hp} {Q Q' : St → Hp → Prop} (k : ∀ σ' H', Q σ' H' → Q' σ' H') (h : WG X tg v σ H Q) : WG X tg v σ H Q' := fun pins s u I r =>
  thn (h pins s u I r) fun _ s' ⟨σ', H', I', q⟩ => ⟨σ', H', I', k σ' H' q⟩
theorem det_lc {α : Type} {X : Cx} {tg iter : Expr} {g : TG} {tt : TT} {te : TE} {vs : List Nat} {σ : St} {F H : Hp} {D : α → PyData} {xs : List α} (f : α → Bool) (h : α → PyData) (hz : xs.length ≤ sizeLine) (hg : TG.Mono g) (hi : DI X tg iter σ F H (xs.map D))
    (hs : ∀ x ∈ xs, ∀ v F' H', Gr F H F' H' → Da F' (D x) v → g v (wipe σ vs) H' fun σ2 H2 => H2 = H' ∧ wipe σ2 vs = wipe σ vs ∧ DTt tt σ2 F' H' (f x) ∧ (f x = true → DEt te σ2 F' H' (h x))) :
    DEt (tLc (WI X tg iter) g tt te vs) σ F H (.list ((xs.filter f).map h)) := fun F1 H1 g1 Q q => hi F1 H1 g1 _ fun J F2 H2 g2 w Dl hDl => by
  refine ⟨fun i m H' => m = xs.length - i ∧ i ≤ xs.length ∧ ∃ F' ys, Gr F2 H2 F' H' ∧ F' Dl = none ∧ H' Dl = some (.lst ys) ∧ DaAll F' (((xs.take i).filter f).map h) ys,
    ⟨xs.length, by simp, Nat.zero_le _, F2, [], (Gr.refl g2.fh).open' hDl, g2.fh.free hDl, upd_same, daAll_nil⟩, ?_⟩
  rintro i m H' ⟨rfl, hi', F', ys, g', n', e', a'⟩
  obtain ⟨w1, w2⟩ := w F' H' g'.ff g'.fh
  rw [List.length_map] at w2
  by_cases hlt : i < xs.length
  · have e0 : xs[i]? = some xs[i] := List.getElem?_eq_getElem hlt
    have e : (xs.map D)[i]? = some (D xs[i]) := by rw [List.getElem?_map, e0]; rfl
    obtain ⟨go, yl⟩ := w1 i _ e
    have htk : xs.take (i + 1) = xs.take i ++ [xs[i]] := by rw [List.take_add_one, e0]; rfl
    have hly : ys.length < sizeLine := by
      have h1 := a'.length
      have h2 : (((xs.take i).filter f).map h).length ≤ i := by
        rw [List.length_map]
        exact Nat.le_trans (List.length_filter_le _ _) (by rw [List.length_take]; omega)
      omega
    refine .inr ⟨go, fun H3 => i + 1 ≤ xs.length ∧ ∃ F' ys, Gr F2 H2 F' H3 ∧ F' Dl = none ∧ H3 Dl = some (.lst ys) ∧ DaAll F' (((xs.take (i + 1)).filter f).map h) ys, fun H3 p' => ⟨xs.length - (i + 1), by omega, rfl, p'⟩, fun x H4 y => ?_⟩
    obtain ⟨F4, g4, hd⟩ := yl x H4 y
    have gg := (g1.trans g2).trans (g'.trans g4)
    refine hg _ _ _ _ _ ?_ (hs xs[i] (List.getElem_mem hlt) x F4 H4 gg hd)
    rintro σ2 H5 ⟨rfl, hw, ht, he⟩
    refine ⟨hw, ht F4 H5 (.refl g4.fh) _ fun F6 H6 g6 => ?_⟩
    have n6 : F6 Dl = none := (g4.trans g6).f0 n' e'
    have e6 : H6 Dl = some (.lst ys) := (g4.trans g6).hh _ _ e'
    cases hf : f xs[i] with
    | true =>
      refine iteT (he hf F6 H6 g6 _ fun v F7 H7 g7 hv => ⟨ys, g7.hh _ _ e6, hly, hlt, F7, ys ++ [v], ?_, g7.f0 n6 e6, upd_same, ?_⟩)
      · exact ((((g'.trans g4).trans g6).trans g7)).mut hDl (g7.f0 n6 e6)
      · rw [htk, List.filter_append, List.map_append]
        have : [xs[i]].filter f = [xs[i]] := by simp [hf]
        rw [this]
        exact (a'.mono ((g4.trans g6).trans g7).ff).snoc hv
    | false =>
      refine iteF ⟨hlt, F6, ys, (g'.trans g4).trans g6, n6, e6, ?_⟩
      rw [htk, List.filter_append, List.map_append]
      have : [xs[i]].filter f = [] := by simp [hf]
      rw [this, List.map_nil, List.append_nil]
      exact a'.mono (g4.trans g6).ff
  · have e : i = xs.length := by omega
    subst e
    refine .inl ⟨w2, q (.ref Dl) (upd F' Dl (.lst ys)) H' (g2.trans (g'.tell hDl n' e')) ?_⟩
    rw [List.take_length] at a'
    exact ⟨Dl, ys, rfl, upd_same, a'.mono (same_upd n')⟩
/-- a comprehension's block -/
abbrev Blk (X : Cx) (scope : Scope) (s : Shared) (H : Hp) (C : Addr) (cl : List (Str × Addr)) (fp : List Addr) : Cx := X.blk s H scope (compEnvC scope cl C X.env) fp
def gB (X : Cx) (scope : Scope) (tg : Expr) : TG := fun v σ H Q => ∀ s H0 C cl fp, WG (Blk X scope s H0 C cl fp) tg v σ H Q
def tB' (X : Cx) (scope : Scope) (c : Expr) : TT := fun σ H Q => ∀ s H0 C cl fp, WT (Blk X scope s H0 C cl fp) c σ H Q
def eB (X : Cx) (scope : Scope) (e : Expr) : TE := fun σ H Q => ∀ s H0 C cl fp, WE (Blk X scope s H0 C cl fp) e σ H Q
section
variable {α : Type} {X : Cx} {σ : St} {F H : Hp} {elt tg iter c : Expr} {scope : Scope} {pos spos py : Pos} {Dx : α → PyData} {xs : List α} {own : List (Str × Nat)} {y : Str}
/-- what a comprehension's element is made of: target, test, element -/
structure LcOk (X : Cx) (scope : Scope) (own : List (Str × Nat)) (iter : Expr) : Prop where
  calm : X.calm = true
  nd : X.N.Nodup
  ok : blkC X.N X.env.scope scope own = true
  fs : ∀ x, foldedSetIterable iter X.env x = pure x
theorem lcok {N ps : List Str} {sc : Scope} (S : FnScope N ps sc) (hb : blkC N sc scope own = true) (hc : X.calm = true := by rfl) (hN : X.N = N := by rfl) (hsc : X.env.scope = sc := by rfl) (fs : ∀ x, foldedSetIterable iter X.env x = pure x := by intro _; rfl) : LcOk X scope own iter :=
  ⟨hc, hN ▸ S.nd, by rw [hN, hsc]; exact hb, fs⟩
theorem gB_mono : TG.Mono (gB X scope tg) := fun v σ H Q Q' k h s H0 C cl fp => (h s H0 C cl fp).mono k
theorem gb_name {x : Str} {v : V} {Q : St → Hp → Prop} (i : Nat) (hN : X.N.Nodup) (q : Q (σ.set i (some v)) H) (hi : X.N[i]? = some x := by rfl) (hx : ∀ s H0 C cl fp, Loc (Blk X scope s H0 C cl fp).env.scope x := by first | exact fun _ _ _ _ _ => .inl rfl | exact fun _ _ _ _ _ => .inr rfl)
    (hf : ∀ s H0 C cl fp, (Blk X scope s H0 C cl fp).fn x = true ∨ (Blk X scope s H0 C cl fp).env.scope.names.lookup x = some .local := by first | exact fun _ _ _ _ _ => .inr rfl | exact fun _ _ _ _ _ => .inl rfl) : gB X scope (.Name x pos) v σ H Q :=
  fun s H0 C cl fp => wg_name i hN q hi (hx s H0 C cl fp) (hf s H0 C cl fp)
theorem de_lcIf (own : List (Str × Nat)) (o : LcOk X scope own iter) (f : α → Bool) (h : α → PyData) (hi : DI X tg iter σ F H (xs.map Dx)) (hz : xs.length ≤ sizeLine)
    (hs : ∀ x ∈ xs, ∀ v F' H', Gr F H F' H' → Da F' (Dx x) v → gB X scope tg v (wipe σ (own.map (·.2))) H' fun σ2 H2 => H2 = H' ∧ wipe σ2 (own.map (·.2)) = wipe σ (own.map (·.2)) ∧ (∀ s H0 C cl fp, DT (Blk X scope s H0 C cl fp) c σ2 F' H' (f x)) ∧ (f x = true → ∀ s H0 C cl fp, DE (Blk X scope s H0 C cl fp) elt σ2 F' H' (h x))) :
    DE X (.ListComp elt [⟨tg, iter, [c], 0⟩] scope pos) σ F H (.list ((xs.filter f).map h)) := by
  have key := det_lc (g := gB X scope tg) (tt := tB' X scope c) (te := eB X scope elt) (vs := own.map (·.2)) f h hz gB_mono hi (fun x hx v F' H' g hv => gB_mono _ _ _ _ _ (fun σ2 H2 ⟨h1, h2, h3, h4⟩ => ⟨h1, h2, fun F1 H1 g1 Q q s H0 C cl fp => h3 s H0 C cl fp F1 H1 g1 Q q, fun hf F1 H1 g1 Q q s H0 C cl fp => h4 hf s H0 C cl fp F1 H1 g1 Q q⟩) (hs x hx v F' H' g hv))
  exact fun F1 H1 g Q q => we_of (pe_lc o.calm o.nd pi_wi (blkOk_by o.ok) (fun s H0 C cl fp => ⟨fun pins s' σ H v u Q I r h => h s H0 C cl fp pins s' u I r⟩) (fun s H0 C cl fp => pts_one ⟨fun pins s' σ H Q I h => h s H0 C cl fp pins s' I⟩) (fun s H0 C cl fp => ⟨fun pins s' σ H Q I h => h s H0 C cl fp pins s' I⟩) o.fs) (key F1 H1 g Q q)
end
/-! ## defs -/
/-- a def that tells data of data, and leaves all else -/
def spF (n : Nat) (pre : List PyData → Prop) (fn : List PyData → PyData) : Sp := fun vs H Q _ => ∃ F ds, ds.length = n ∧ Same F H ∧ DaAll F ds vs ∧ pre ds ∧ ∀ v F2 H2, Gr F H F2 H2 → Da F2 (fn ds) v → Q v H2
section
variable {P : Program} {w : World} {K : PySem.W.Frag} {mg : Str → Option Value} {base : Heap}
/-- a def's body -/
theorem okW {x qual : Str} {st : Stmt} {f : Addr} {fd : FuncData} {N ps : List Str} {k : Nat} {sp : Sp} (F : Fun K x qual st f fd) (S : FnScope N ps (defScope st)) (len : ∀ vs H Q E, sp vs H Q E → vs.length = ps.length)
    (hbody : ∀ (cdv : Value) (A : Around) (outer : List Env) (s : Shared) (H : Hp) (vs : List V) (Q : VK) (E : XK), Room k (A.deeper (PyProof.Rows.envOfC qual (defScope st) s.heap.objs.size f cdv)) → sp vs H Q E →
      WSs (cxOf CX0 P w K mg base N qual (defScope st) f cdv A outer s H E).nox (defBody st) { nx := fun _ H' => Q .non H', rt := Q } (start N vs) H) : FnOk P w K mg base CX0 (k + 1) f fd ps sp :=
  F.ok S len fun cdv A outer s H vs Q E hr h => ⟨_, pss_wss, hbody cdv A outer s H vs Q E hr h⟩
theorem okF {x qual : Str} {st : Stmt} {f : Addr} {fd : FuncData} {N ps : List Str} {k : Nat} {pre : List PyData → Prop} {fn : List PyData → PyData} (F : Fun K x qual st f fd) (S : FnScope N ps (defScope st))
    (hbody : ∀ (X : Cx) (cdv : Value) (A : Around) (outer : List Env) (s : Shared) (H0 : Hp) (E : XK) (vs : List V) (F H : Hp) (ds : List PyData) (Q : VK), X = (cxOf CX0 P w K mg base N qual (defScope st) f cdv A outer s H0 E).nox → Room k X.A → ds.length = ps.length → Same F H → DaAll F ds vs → pre ds → (∀ v F2 H2, Gr F H F2 H2 → Da F2 (fn ds) v → Q v H2) →
      WSs X (defBody st) { nx := fun _ H' => Q .non H', rt := Q } (start N vs) H) : FnOk P w K mg base CX0 (k + 1) f fd ps (spF ps.length pre fn) :=
  okW F S (fun vs H Q E ⟨F, ds, hl, _, ha, _⟩ => by rw [ha.length, hl]) fun cdv A outer s H vs Q E hr ⟨F, ds, hl, hs, ha, hp, q⟩ => hbody _ cdv A outer s H E vs F H ds Q rfl hr hl hs ha hp q
end
section
variable {X : Cx} {σ : St} {F H : Hp} {e : Expr} {es : List Expr} {ds : List PyData} {k : Nat} {f : Addr} {fd : FuncData} {ps : List Str} {n : Nat} {pre : List PyData → Prop} {fn : List PyData → PyData} {x : Str} {p pos : Pos} {d : PyData}
/-- f(..) -/
theorem de_call (G : FnOk X.prog X.w X.K X.mg X.base CX0 k f fd ps (spF n pre fn)) (hr : Room k X.A) (hm : X.mg x = some (.ref f)) (hk : PySem.W.keepIn X.K (.ref f) = true) (hb : Binds X.K fd ps []) (ha : DL X (e :: es) σ F H ds) (hn : ds.length = n) (hp : pre ds) (he : fn ds = d)
    (hg : Gl X x := by rfl) (hdb : (x == ("__debug__" : Str)) = false := by decide) (l : Pl X e es pos := by exact ⟨rfl, rfl⟩) : DE X (.Call (.Name x p) (e :: es) [] pos) σ F H d := fun F1 H1 g Q q =>
  we_of (pe_call G hr hg hm hk hb .nil pass0 pa_wa hdb l.he l.hpl) (ha F1 H1 g _ fun vs F2 H2 g2 hvs => by
    show spF n pre fn (vs ++ []) H2 Q E0
    rw [List.append_nil]
    exact ⟨F2, ds, hn, g2.fh, hvs, hp, fun v F3 H3 g3 hv => q v F3 H3 (g2.trans g3) (he ▸ hv)⟩)
end
end Kr
/-! layer Kr5 -/
namespace Kr
open PySem L2
/-! ## texts in order -/
def leS (a b : Str) : Bool := !decide (b.cps.toList < a.cps.toList)
theorem leS_iff {a b : Str} : leS a b = true ↔ a.cps.toList ≤ b.cps.toList := by
  unfold leS
  rw [Bool.not_eq_true', decide_eq_false_iff_not]
  exact Iff.rfl
theorem str_ext {a b : Str} (h : a.cps.toList = b.cps.toList) : a = b := by
  cases a; cases b
  simp only at h
  congr
  exact Array.toList_inj.mp h
theorem leS_trans (a b c : Str) (h1 : leS a b = true) (h2 : leS b c = true) : leS a c = true := leS_iff.mpr (List.le_trans (leS_iff.mp h1) (leS_iff.mp h2))
theorem leS_total (a b : Str) : (leS a b || leS b a) = true := by
  rcases List.le_total a.cps.toList b.cps.toList with h | h
  · rw [leS_iff.mpr h]; rfl
  · rw [leS_iff.mpr h, Bool.or_true]
theorem leS_antisymm {a b : Str} (h1 : leS a b = true) (h2 : leS b a = true) : a = b := str_ext (List.le_antisymm (leS_iff.mp h1) (leS_iff.mp h2))
/-- sorted(xs) -/
def srt (xs : List Str) : List Str := xs.mergeSort leS
theorem srt_perm (xs : List Str) : (srt xs).Perm xs := List.mergeSort_perm xs leS
theorem srt_sorted (xs : List Str) : (srt xs).Pairwise (fun a b => leS a b = true) := List.pairwise_mergeSort leS_trans leS_total xs
theorem srt_length (xs : List Str) : (srt xs).length = xs.length := (srt_perm xs).length_eq
theorem mem_srt {x : Str} {xs : List Str} : x ∈ srt xs ↔ x ∈ xs := (srt_perm xs).mem_iff
theorem sorted_unique : ∀ {xs ys : List Str}, xs.Perm ys → xs.Pairwise (fun a b => leS a b = true) → ys.Pairwise (fun a b => leS a b = true) → xs = ys
  | [], ys, p, _, _ => (List.nil_perm.mp p).symm
  | x :: xs, [], p, _, _ => by simpa using p.length_eq
  | x :: xs, y :: ys, p, h1, h2 => by
    have e : x = y := by
      have hx : x ∈ y :: ys := p.mem_iff.mp List.mem_cons_self
      have hy : y ∈ x :: xs := p.mem_iff.mpr List.mem_cons_self
      rcases List.mem_cons.mp hx with e | hx
      · exact e
      rcases List.mem_cons.mp hy with e | hy
      · exact e.symm
      exact leS_antisymm (List.rel_of_pairwise_cons h1 hy) (List.rel_of_pairwise_cons h2 hx)
    subst e
    rw [sorted_unique (List.Perm.cons_inv p) h1.of_cons h2.of_cons]
theorem sortedS_pairwise : ∀ {xs : List Str}, PyProof.Rows.sortedS xs = true → xs.Pairwise (fun a b => leS a b = true)
  | [], _ => .nil
  | [x], _ => by simp
  | x :: y :: r, h => by
    have h' : (!Spec.ltCps y.cps.toList x.cps.toList) = true ∧ PyProof.Rows.sortedS (y :: r) = true := by simpa [PyProof.Rows.sortedS, PyProof.Rows.risingS] using h
    have ih := sortedS_pairwise h'.2
    have hxy : leS x y = true := by
      unfold leS
      rw [PyProof.Rows.lt_meets]
      exact h'.1
    refine List.pairwise_cons.mpr ⟨fun z hz => ?_, ih⟩
    rcases List.mem_cons.mp hz with rfl | hz
    · exact hxy
    · exact leS_trans _ _ _ hxy (List.rel_of_pairwise_cons ih hz)
theorem srt_eq {xs ys : List Str} (p : ys.Perm xs) (h : PyProof.Rows.sortedS ys = true) : ys = srt xs := sorted_unique (p.trans (srt_perm xs).symm) (sortedS_pairwise h) (srt_sorted xs)
/-! ## rules -/
section
variable {X : Cx} {σ : St} {F H : Hp} {e a b c : Expr} {es : List Expr} {d d1 d2 : PyData} {ds : List PyData} {v : V} {i j k : Int} {pos p : Pos} {x y : Str} {bb cc : Bool}
/-- sorted of texts, any number -/
def rSortedSA (K : PySem.W.Frag) : List V → Hp → VK → Prop := fun vs H Q => ∃ (a : Addr) (xs : List Str), vs = [V.ref a] ∧ SqL K H a (xs.map V.str) ∧ ∀ (p : Addr), H p = none → Q (.ref p) (upd H p (.lst ((srt xs).map V.str)))
theorem cr_sortedSA : CallR X (.builtin "sorted") (rSortedSA X.K) := by
  intro pins s σ H vs us Q I r h
  obtain ⟨a, xs, rfl, hs, q⟩ := h
  obtain ⟨its, rv, hl, hz⟩ := I.list hs
  rw [Vals.ref1 r]
  have hlen0 := rv.length
  refine PyProof.Rows.sorted_strsAny hl.isList rv.strs (by rw [← hlen0]; exact hz) fun out ys h1 h2 h3 => ?_
  obtain ⟨ep, he'⟩ := PyProof.Rows.sortedAll_at s.heap its out
  have hlen : (ys.map V.str).length ≤ sizeLine := by rw [List.length_map, h2.length_eq]; rw [List.length_map] at hz; exact hz
  have ey := srt_eq h2 h3
  subst ey
  exact ⟨.ref _, upd H (s.heap.objs.size + 1) (.lst ((srt xs).map V.str)), I.laid (t' := s.toks) (fun _ _ => PyProof.Rows.sortedAll_old) (Nat.le_succ _) ⟨hlen, out.toList, ep, vals_of_strs h1, he'⟩, rfl, q _ (I.hok.fresh (Nat.le_succ _))⟩
theorem de_sortedS {xs : List Str} (hm : X.mg "sorted" = none) (ha : DE X e σ F H (.list (xs.map .str))) (hg : Gl X "sorted" := by rfl) (l : Pl X e [] pos := by exact ⟨rfl, rfl⟩) : DE X (.Call (.Name "sorted" p) [e] [] pos) σ F H (.list ((srt xs).map .str)) :=
  de_callB cr_sortedSA hg hm (by decide +kernel) (dl_cons ha dl_nil l.he) (fun vs F1 H1 g1 hv Q q => by
    obtain ⟨v, rfl, a, ys, rfl, h1, h2⟩ := daAll1 hv
    obtain rfl := h2.strs
    exact ⟨_, xs, rfl, SqL.of (g1.fh _ _ h1), fun l hl => q _ (upd F1 l (.lst _)) _ ((Gr.refl g1.fh).shut hl) ⟨l, _, rfl, upd_same, daAll_strs _⟩⟩) ⟨by decide, by decide⟩ l
/-- lists of unlike lengths -/
def rEqLen (K : PySem.W.Frag) : R2 := fun x y H Q => ∃ a b xs ys, x = .ref a ∧ y = .ref b ∧ SqL K H a xs ∧ SqL K H b ys ∧ xs.length ≠ ys.length ∧ Q (.bl false) H
theorem op_eqLen (hu : X.A.units + 64 < cLine) : OpR X (compareOp .Eq) (rEqLen X.K) := by
  intro pins s σ H x y v u Q I rx ry h
  obtain ⟨a, b, xs, ys, rfl, rfl, h1, h2, hne, q⟩ := h
  cases rx; cases ry
  obtain ⟨its, rv, hl, hz⟩ := I.list h1
  obtain ⟨its2, rv2, hl2, hz2⟩ := I.list h2
  refine SeqAt.eq_list_lengthsAt hl.isList hl2.isList ?_ (by omega) ⟨.bl false, H, I, rfl, q⟩
  have e1 := rv.length
  have e2 := rv2.length
  simp only [List.size_toArray, bne_iff_ne, ne_eq]
  omega
/-- e == [] -/
theorem c_eqNil (hu : X.A.units + 64 < cLine) (ha : DE X a σ F H (.list ds)) {lp : Pos} : DC X .Eq a (.List [] lp) σ F H ds.isEmpty := by
  cases ds with
  | nil => exact c_eq hu ha (de_lst dl_nil) (by rfl) (by rfl)
  | cons d0 ds =>
    exact c_cmp (op_eqLen hu) (nomark _) ha (de_lst dl_nil) fun x y F1 H1 g1 hx hy Q q => by
      obtain ⟨p, xs, rfl, h1, h2⟩ := hx
      obtain ⟨r, ys, rfl, h3, h4⟩ := hy
      obtain rfl : ys = [] := h4
      exact ⟨p, r, xs, [], rfl, rfl, SqL.of (g1.fh _ _ h1), SqL.of (g1.fh _ _ h3), by rw [h2.length]; simp, q _ F1 H1 (.refl g1.fh) rfl⟩
def rNeLen (K : PySem.W.Frag) : R2 := fun x y H Q => ∃ a b xs ys, x = .ref a ∧ y = .ref b ∧ SqL K H a xs ∧ SqL K H b ys ∧ xs.length ≠ ys.length ∧ Q (.bl true) H
theorem c_notInSign {z : Str} {cp : Nat} (ha : DE X a σ F H (.str ⟨#[cp]⟩)) (hb : DE X b σ F H (.str z)) (hm : behindInMarks .NotIn b = false := by rfl) : DC X .NotIn a b σ F H (!decide (cp ∈ z.cps.toList)) :=
  c_cmp op_notIn_sign hm ha hb fun x y F1 H1 g1 hx hy Q q => ⟨cp, z, hx, hy, q _ F1 H1 (.refl g1.fh) rfl⟩
/-- a module's constant -/
def Mg (mg : Str → Option Value) (x : Str) (v : V) : Prop := ∃ u, mg x = some u ∧ RelV v u
theorem ve_glob (h : Mg X.mg x v) (hg : Gl X x := by rfl) (hd : (x == ("__debug__" : Str)) = false := by decide) : VE X (.Name x pos) σ F H v := by
  obtain ⟨u, h1, h2⟩ := h
  exact ve_of (pe_glob hg h1 h2 hd) fun _ _ _ _ q => q
end
end Kr
/-! layer Kr6 -/
namespace Kr
open PySem L2
/-! ## sizes -/
mutual
def SzD : PyData → Prop
  | .str x => x.length ≤ 100000
  | .list ds => ds.length ≤ 100000 ∧ SzAll ds
  | .tuple ds => SzAll ds
  | .dict kvs => noExK kvs = true
  | _ => True
def SzAll : List PyData → Prop
  | [] => True
  | d :: ds => SzD d ∧ SzAll ds
end
theorem SzD.noEx {d : PyData} (h : SzD d) : noEx d = true := by
  cases d with
  | dict kvs => exact h
  | _ => rfl
theorem SzAll.mem : ∀ {ds : List PyData} {d : PyData}, SzAll ds → d ∈ ds → SzD d
  | d0 :: ds, d, h, m => by
    rcases List.mem_cons.mp m with rfl | m
    · exact h.1
    · exact SzAll.mem h.2 m
theorem szAll_of : ∀ {ds : List PyData}, (∀ d ∈ ds, SzD d) → SzAll ds
  | [], _ => True.intro
  | d :: ds, h => ⟨h d List.mem_cons_self, szAll_of fun x m => h x (List.mem_cons_of_mem _ m)⟩
theorem SzAll.get {ds : List PyData} {i : Nat} {d : PyData} (h : SzAll ds) (e : ds[i]? = some d) : SzD d := h.mem (List.mem_of_getElem? e)
theorem sz100 {n : Nat} (h : n ≤ 100000) : n ≤ sizeLine := Nat.le_trans h (by decide)
/-! ## kinds, rooms, houses -/
def letters : Str := "abcdefghijklmnopqrstuvwxyz"
def isKind (x : Str) : Bool := decide ((1 : Int) ≤ x.length) && decide ((x.length : Int) ≤ 4) && x.cps.toList.all fun c => decide (c ∈ letters.cps.toList)
def isKindD : PyData → Bool
  | .str x => isKind x
  | _ => false
def areKeysD : PyData → Bool
  | .list ds => ds.all isKindD
  | _ => false
def ksD (ks : List Str) : PyData := .list (ks.map .str)
/-- the texts of data that are kinds -/
def strsOf (ds : List PyData) : List Str := ds.filterMap fun d => match d with | .str x => some x | _ => none
theorem strsOf_eq : ∀ {ds : List PyData}, ds.all isKindD = true → ds = (strsOf ds).map .str
  | [], _ => rfl
  | d :: ds, h => by
    have h' : isKindD d = true ∧ ds.all isKindD = true := by simpa using h
    cases d with
    | str x =>
      show PyData.str x :: ds = PyData.str x :: (strsOf ds).map .str
      rw [← strsOf_eq h'.2]
    | _ => exact absurd h'.1 (by simp [isKindD])
theorem strsOf_strs (ks : List Str) : strsOf (ks.map .str) = ks := by
  induction ks with
  | nil => rfl
  | cons k ks ih => show k :: strsOf (ks.map .str) = _; rw [ih]
def isRoomD : PyData → Bool
  | .tuple [l, k] => areKeysD l && areKeysD k && (match l with
    | .list ds => decide ((1 : Int) ≤ ds.length) && decide ((ds.length : Int) ≤ 4) && decide (strsOf ds = srt (strsOf ds))
    | _ => false)
  | _ => false
def isHouseD : PyData → Bool
  | .tuple [k, .list rs] => areKeysD k && rs.all isRoomD
  | _ => false
abbrev Room' := List Str × List Str
abbrev House := List Str × List Room'
def roomD (r : Room') : PyData := .tuple [ksD r.1, ksD r.2]
def houseD (h : House) : PyData := .tuple [ksD h.1, .list (h.2.map roomD)]
def goodRoom (r : Room') : Prop := (∀ k ∈ r.1, isKind k = true) ∧ (∀ k ∈ r.2, isKind k = true) ∧ 1 ≤ r.1.length ∧ r.1.length ≤ 4 ∧ srt r.1 = r.1
structure GoodHouse (h : House) : Prop where
  keys : ∀ k ∈ h.1, isKind k = true
  rooms : ∀ r ∈ h.2, goodRoom r
  few : h.1.length ≤ 100000
  many : h.2.length ≤ 100000
  each : ∀ r ∈ h.2, r.2.length ≤ 100000
theorem isKind_len {x : Str} (h : isKind x = true) : 1 ≤ x.length ∧ x.length ≤ 4 := by
  unfold isKind at h
  simp only [Bool.and_eq_true, decide_eq_true_eq] at h
  omega
theorem areKeysD_ks {ks : List Str} (h : ∀ k ∈ ks, isKind k = true) : areKeysD (ksD ks) = true := by
  simp only [areKeysD, ksD, List.all_map, List.all_eq_true]
  exact fun k hk => h k hk
theorem isRoomD_room {r : Room'} (h : goodRoom r) : isRoomD (roomD r) = true := by
  obtain ⟨h1, h2, h3, h4, h5⟩ := h
  simp only [roomD, isRoomD, areKeysD_ks h1, areKeysD_ks h2, Bool.true_and, ksD, strsOf_strs, h5, List.length_map, decide_true, Bool.and_true, Bool.and_eq_true, decide_eq_true_eq]
  exact ⟨⟨areKeysD_ks h1, areKeysD_ks h2⟩, by omega, by omega⟩
theorem isHouseD_house {h : House} (g : GoodHouse h) : isHouseD (houseD h) = true := by
  simp only [houseD, isHouseD, areKeysD_ks g.keys, Bool.true_and, List.all_map, List.all_eq_true]
  exact fun r hr => isRoomD_room (g.rooms r hr)
theorem szD_ks {ks : List Str} (h : ∀ k ∈ ks, isKind k = true) (hl : ks.length ≤ 100000) : SzD (ksD ks) := by
  refine ⟨by rw [List.length_map]; exact hl, szAll_of fun d m => ?_⟩
  obtain ⟨k, hk, rfl⟩ := List.mem_map.mp m
  have := isKind_len (h k hk)
  show k.length ≤ 100000
  omega
theorem szD_room {r : Room'} (h : goodRoom r) (hl : r.2.length ≤ 100000) : SzD (roomD r) := ⟨szD_ks h.1 (by have := h.2.2.2.1; omega), szD_ks h.2.1 hl, True.intro⟩
theorem szD_house {h : House} (g : GoodHouse h) : SzD (houseD h) := by
  refine ⟨szD_ks g.keys g.few, ⟨by rw [List.length_map]; exact g.many, szAll_of fun d m => ?_⟩, True.intro⟩
  obtain ⟨r, hr, rfl⟩ := List.mem_map.mp m
  exact szD_room (g.rooms r hr) (g.each r hr)
/-- a list of which none is out -/
theorem filter_none {α : Type} (xs : List α) (p : α → Bool) (h : α → PyData) : ((xs.filter fun x => !p x).map h).isEmpty = xs.all p := by
  induction xs with
  | nil => rfl
  | cons x xs ih =>
    cases hp : p x with
    | true => simp only [List.filter_cons, hp, Bool.not_true, Bool.false_eq_true, if_false, List.all_cons, Bool.true_and]; exact ih
    | false => simp only [List.filter_cons, hp, Bool.not_false, if_true, List.map_cons, List.isEmpty_cons, List.all_cons, Bool.false_and]
/-! ## equality of kinds, rooms, houses -/
theorem letters_lt : ∀ c ∈ letters.cps.toList, c < 0x110000 := by decide +kernel
theorem strOk_kind {x : Str} (h : isKind x = true) : PyData.strOk x = true := by
  unfold isKind at h
  simp only [Bool.and_eq_true, List.all_eq_true, decide_eq_true_eq] at h
  unfold PyData.strOk
  rw [← Array.all_toList, List.all_eq_true]
  exact fun c hc => decide_eq_true (letters_lt c (h.2 c hc))
theorem eqvAll_strs : ∀ a b : List Str, PyData.eqvAll (a.map .str) (b.map .str) = decide (a = b)
  | [], [] => by simp [PyData.eqvAll]
  | [], _ :: _ => by simp [PyData.eqvAll]
  | _ :: _, [] => by simp [PyData.eqvAll]
  | x :: a, y :: b => by
    simp only [List.map_cons, PyData.eqvAll, PyData.eqv, eqvAll_strs a b, List.cons.injEq]
    by_cases h : x = y <;> simp [h]
theorem eqv_ks (a b : List Str) : PyData.eqv (ksD a) (ksD b) = decide (a = b) := by simp only [ksD, PyData.eqv, eqvAll_strs]
/-- laid, and so deep at most -/
def Lay (n : Nat) (d : PyData) : Prop := d.canLay0 = true ∧ d.depth ≤ n
theorem Lay.shaped {n : Nat} {d : PyData} (h : Lay n d) (hn : n ≤ 64 := by decide) : SeqAt.shaped d = true := by
  unfold SeqAt.shaped
  rw [h.1, decide_eq_true (Nat.le_trans h.2 hn)]
  rfl
theorem lay_all : ∀ {n : Nat} {ds : List PyData}, (∀ d ∈ ds, Lay n d) → PyData.canLayAll0 ds = true ∧ PyData.depthAll ds ≤ n
  | n, [], _ => ⟨by simp [PyData.canLayAll0], by simp [PyData.depthAll]⟩
  | n, d :: ds, h => by
    obtain ⟨h1, h2⟩ := lay_all fun x m => h x (List.mem_cons_of_mem _ m)
    obtain ⟨h3, h4⟩ := h d List.mem_cons_self
    exact ⟨by simp [PyData.canLayAll0, h1, h3], by simp only [PyData.depthAll]; omega⟩
theorem lay_list {n : Nat} {ds : List PyData} (h : ∀ d ∈ ds, Lay n d) : Lay (n + 1) (.list ds) := by
  obtain ⟨h1, h2⟩ := lay_all h
  exact ⟨by simp only [PyData.canLay0]; exact h1, by simp only [PyData.depth]; omega⟩
theorem lay_tuple {n : Nat} {ds : List PyData} (h : ∀ d ∈ ds, Lay n d) : Lay (n + 1) (.tuple ds) := by
  obtain ⟨h1, h2⟩ := lay_all h
  exact ⟨by simp only [PyData.canLay0]; exact h1, by simp only [PyData.depth]; omega⟩
theorem Lay.up {n m : Nat} {d : PyData} (h : Lay n d) (e : n ≤ m) : Lay m d := ⟨h.1, Nat.le_trans h.2 e⟩
theorem lay_int (i : Int) {n : Nat} : Lay n (.int i) := ⟨by simp [PyData.canLay0], by simp [PyData.depth]⟩
theorem lay_str {x : Str} (h : PyData.strOk x = true) {n : Nat} : Lay n (.str x) := ⟨by simp [PyData.canLay0, h], by simp [PyData.depth]⟩
theorem lay_ks {ks : List Str} (h : ∀ k ∈ ks, isKind k = true) : Lay 1 (ksD ks) := lay_list fun d m => by
  obtain ⟨k, hk, rfl⟩ := List.mem_map.mp m
  exact lay_str (strOk_kind (h k hk))
theorem lay_room {r : Room'} (h : goodRoom r) : Lay 2 (roomD r) := lay_tuple fun d m => by
  rcases List.mem_cons.mp m with rfl | m
  · exact lay_ks h.1
  rcases List.mem_cons.mp m with rfl | m
  · exact lay_ks h.2.1
  · cases m
theorem lay_house {h : House} (g : GoodHouse h) : Lay 4 (houseD h) := lay_tuple fun d m => by
  rcases List.mem_cons.mp m with rfl | m
  · exact (lay_ks g.keys).up (by decide)
  rcases List.mem_cons.mp m with rfl | m
  · exact lay_list fun d m => by
      obtain ⟨r, hr, rfl⟩ := List.mem_map.mp m
      exact lay_room (g.rooms r hr)
  · cases m
/-! ## isinstance of data -/
theorem kit_str : ∀ d : PyData, kitB (tyName d) "str" = some (match d with | .str _ => true | _ => false)
  | .none => by show kitB "NoneType" "str" = some false; decide +kernel
  | .bool _ => by show kitB "bool" "str" = some false; decide +kernel
  | .int _ => by show kitB "int" "str" = some false; decide +kernel
  | .str _ => by show kitB "str" "str" = some true; decide +kernel
  | .list _ => by show kitB "list" "str" = some false; decide +kernel
  | .tuple _ => by show kitB "tuple" "str" = some false; decide +kernel
  | .dict _ => by show kitB "dict" "str" = some false; decide +kernel
theorem kit_list : ∀ d : PyData, kitB (tyName d) "list" = some (match d with | .list _ => true | _ => false)
  | .none => by show kitB "NoneType" "list" = some false; decide +kernel
  | .bool _ => by show kitB "bool" "list" = some false; decide +kernel
  | .int _ => by show kitB "int" "list" = some false; decide +kernel
  | .str _ => by show kitB "str" "list" = some false; decide +kernel
  | .list _ => by show kitB "list" "list" = some true; decide +kernel
  | .tuple _ => by show kitB "tuple" "list" = some false; decide +kernel
  | .dict _ => by show kitB "dict" "list" = some false; decide +kernel
theorem kit_tuple : ∀ d : PyData, kitB (tyName d) "tuple" = some (match d with | .tuple _ => true | _ => false)
  | .none => by show kitB "NoneType" "tuple" = some false; decide +kernel
  | .bool _ => by show kitB "bool" "tuple" = some false; decide +kernel
  | .int _ => by show kitB "int" "tuple" = some false; decide +kernel
  | .str _ => by show kitB "str" "tuple" = some false; decide +kernel
  | .list _ => by show kitB "list" "tuple" = some false; decide +kernel
  | .tuple _ => by show kitB "tuple" "tuple" = some true; decide +kernel
  | .dict _ => by show kitB "dict" "tuple" = some false; decide +kernel
def pre1 (A : PyData → Prop) : List PyData → Prop := fun ds => ∃ d, ds = [d] ∧ A d
def fn1 (f : PyData → PyData) : List PyData → PyData := fun ds => f (ds.getD 0 .none)
end Kr
/-! layer Kr7 -/
namespace Kr
open PySem L2
/-! ## the pool -/
def Pool (H : Hp) (p : Addr) (n : Nat) : Prop := ∃ c m s : Int, H p = some (.lst [.int c, .int m, .int s]) ∧ (m = 0 ∨ m = 1) ∧ 0 ≤ s ∧ s ≤ n
theorem Pool.some {H : Hp} {p : Addr} {n : Nat} (h : Pool H p n) : ∃ o, H p = some o := by
  obtain ⟨c, m, s, h, _⟩ := h
  exact ⟨_, h⟩
theorem Pool.mono {H H' : Hp} {p : Addr} {n m : Nat} (h : Pool H p n) (s : Same H H') (e : n ≤ m := by omega) : Pool H' p m := by
  obtain ⟨c, k, t, h, h1, h2, h3⟩ := h
  exact ⟨c, k, t, s _ _ h, h1, h2, by omega⟩
/-- heaps that grow, the pool at p apart -/
structure Gp (p : Addr) (F H F2 H2 : Hp) : Prop where
  ff : Same F F2
  fh : Same F2 H2
  hh : ∀ b o, b ≠ p → H b = some o → H2 b = some o
  at' : H p ≠ none → H2 p ≠ none
  new : ∀ b, F b = none → H b ≠ none → F2 b = none
section
variable {p : Addr} {F H F1 H1 F2 H2 : Hp}
theorem Gr.gp (g : Gr F H F1 H1) : Gp p F H F1 H1 := ⟨g.ff, g.fh, fun b o _ e => g.hh _ _ e, fun n z => n (g.hh.free z), g.new⟩
theorem Gp.refl (s : Same F H) : Gp p F H F H := (Gr.refl s).gp
theorem Gp.trans (a : Gp p F H F1 H1) (b : Gp p F1 H1 F2 H2) : Gp p F H F2 H2 :=
  ⟨a.ff.trans b.ff, b.fh, fun c o n e => b.hh c o n (a.hh c o n e), fun n => b.at' (a.at' n), fun c e n => b.new c (a.new c e n) (by
    by_cases hc : c = p
    · subst hc; exact a.at' n
    · intro z
      cases hn : H c with
      | none => exact n hn
      | some o => rw [a.hh c o hc hn] at z; cases z)⟩
theorem Gp.pool (g : Gp p F H F1 H1) {o : HO} (h : F1 p = none) : Gp p F H F1 (upd H1 p o) :=
  ⟨g.ff, same_mut g.fh h, fun b u n e => (by rw [upd_ne n]; exact g.hh b u n e), fun _ => (by rw [upd_same]; exact fun z => nomatch z), g.new⟩
theorem Gp.to (g : Gp p F H F1 H1) (h : F1 p = none) (k : ∀ b u, b ≠ p → H1 b = some u → H2 b = some u) {n : Nat} (P : Pool H2 p n) : Gp p F H F1 H2 :=
  ⟨g.ff, fun b u e => k b u (ne_of_none e h) (g.fh b u e), fun b u n e => k b u n (g.hh b u n e), fun _ => (by obtain ⟨o, ho⟩ := P.some; rw [ho]; exact fun z => nomatch z), g.new⟩
theorem Gp.da (g : Gp p F H F1 H1) {d : PyData} {v : V} (h : Da F d v) : Da F1 d v := h.mono g.ff
theorem Gp.f0 (g : Gp p F H F1 H1) {q : Addr} {o : HO} (h : F q = none) (hH : H q = some o) : F1 q = none := g.new q h (by rw [hH]; exact fun z => nomatch z)
/-- a new object that stays open -/
theorem Gp.open' (g : Gp p F H F1 H1) {q : Addr} {o : HO} (h : H1 q = none) (hp : H p ≠ none) : Gp p F H F1 (upd H1 q o) :=
  ⟨g.ff, same_mut g.fh (g.fh.free h), fun b u n e => by
    have : b ≠ q := fun z => by subst z; rw [g.hh _ _ n e] at h; cases h
    rw [upd_ne this]; exact g.hh b u n e, fun n => by
    have : p ≠ q := fun z => by subst z; exact g.at' hp h
    rw [upd_ne this]; exact g.at' n, g.new⟩
theorem Gp.shut (g : Gp p F H F1 H1) {q : Addr} {o : HO} (h : H1 q = none) (hp : H p ≠ none) : Gp p F H (upd F1 q o) (upd H1 q o) := by
  have g2 := g.open' (o := o) h hp
  refine ⟨g.ff.trans (same_upd (g.fh.free h)), same_both g.fh, g2.hh, g2.at', fun b e n => ?_⟩
  have hb : b ≠ q := fun z => by
    subst z
    by_cases hbp : b = p
    · subst hbp; exact g.at' n h
    · cases hn : H b with
      | none => exact n hn
      | some o => rw [g.hh b o hbp hn] at h; cases h
  rw [upd_ne hb]; exact g.new b e n
/-- an open object of our own changes -/
theorem Gp.mut (g : Gp p F H F1 H1) {q : Addr} {o : HO} (h : H q = none) (hq : q ≠ p) (h1 : F1 q = none) : Gp p F H F1 (upd H1 q o) :=
  ⟨g.ff, same_mut g.fh h1, fun b u n e => (by rw [upd_ne (ne_of_none e h)]; exact g.hh b u n e), fun n => (by rw [upd_ne (fun z => hq z.symm)]; exact g.at' n), g.new⟩
theorem Gp.tell (g : Gp p F H F1 H1) {q : Addr} {o : HO} (h : H q = none) (h1 : F1 q = none) (ho : H1 q = some o) : Gp p F H (upd F1 q o) H1 :=
  ⟨g.ff.trans (same_upd h1), fun b x e => by
    by_cases hb : b = q
    · subst hb; rw [upd_same] at e; rw [ho]; exact e
    · rw [upd_ne hb] at e; exact g.fh _ _ e, g.hh, g.at', fun b e n => by
    have hb : b ≠ q := fun z => by subst z; exact n h
    rw [upd_ne hb]; exact g.new b e n⟩
theorem gr_ff (s : Same F H) : Gr F F F H := ⟨Same.refl _, s, s, fun _ e n => absurd e n⟩
end
section
variable {X : Cx} {σ : St} {F H : Hp} {e : Expr} {d : PyData} {v : V} {b : Bool} {es : List Expr} {ds : List PyData}
/-- what hangs on the told heap alone, at any heap -/
theorem DE.at (h : DE X e σ F F d) (s : Same F H) {Q : VK} (q : ∀ v F2 H2, Gr F H F2 H2 → Da F2 d v → Q v H2) : WE X e σ H Q := h F H (gr_ff s) Q q
theorem VE.at (h : VE X e σ F F v) (s : Same F H) {Q : VK} (q : ∀ F2 H2, Gr F H F2 H2 → Q v H2) : WE X e σ H Q := h F H (gr_ff s) Q q
theorem DT.at (h : DT X e σ F F b) (s : Same F H) {Q : Bool → Hp → Prop} (q : ∀ F2 H2, Gr F H F2 H2 → Q b H2) : WT X e σ H Q := h F H (gr_ff s) Q q
theorem DL.at (h : DL X es σ F F ds) (s : Same F H) {Q : List V → Hp → Prop} (q : ∀ vs F2 H2, Gr F H F2 H2 → DaAll F2 ds vs → Q vs H2) : WA X es σ H Q := h F H (gr_ff s) Q q
theorem DE.f {F' : Hp} (h : DE X e σ F F d) (s : Same F F') : DE X e σ F' F' d := h.mono ⟨s, Same.refl _, s, fun _ e n => absurd e n⟩
theorem DE.fh (h : DE X e σ F F d) (s : Same F H) : DE X e σ F H d := h.mono (gr_ff s)
end
/-! ## expressions that draw: of c drawings, told is one of R -/
def Px (p : Addr) (c : Nat) (X : Cx) (e : Expr) (σ : St) (F : Hp) (R : PyData → Prop) : Prop := ∀ n F1 H1, Same F F1 → Same F1 H1 → F1 p = none → Pool H1 p n → n + c ≤ 1000000 → ∀ Q : VK, (∀ d v F2 H2, Gp p F1 H1 F2 H2 → Pool H2 p (n + c) → Da F2 d v → R d → Q v H2) → WE X e σ H1 Q
def PxT (p : Addr) (c : Nat) (X : Cx) (e : Expr) (σ : St) (F : Hp) (R : Bool → Prop) : Prop := ∀ n F1 H1, Same F F1 → Same F1 H1 → F1 p = none → Pool H1 p n → n + c ≤ 1000000 → ∀ Q : Bool → Hp → Prop, (∀ b F2 H2, Gp p F1 H1 F2 H2 → Pool H2 p (n + c) → R b → Q b H2) → WT X e σ H1 Q
section
variable {p : Addr} {c c1 c2 : Nat} {X : Cx} {σ : St} {F H : Hp} {e a b : Expr} {d : PyData} {ds : List PyData} {R R' : PyData → Prop} {pos q : Pos} {x : Str} {i j : Int}
theorem Px.imp (h : Px p c X e σ F R) (k : ∀ d, R d → R' d) : Px p c X e σ F R' := fun n F1 H1 s1 s2 f P hc Q q => h n F1 H1 s1 s2 f P hc Q fun d v F2 H2 g P2 hd hR => q d v F2 H2 g P2 hd (k d hR)
theorem Px.mono {F' : Hp} (h : Px p c X e σ F R) (s : Same F F') : Px p c X e σ F' R := fun n F1 H1 s1 s2 f P hc Q q => h n F1 H1 (s.trans s1) s2 f P hc Q q
theorem Px.up (h : Px p c X e σ F R) (hc : c ≤ c1) : Px p c1 X e σ F R := fun n F1 H1 s1 s2 f P hn Q q => h n F1 H1 s1 s2 f P (by omega) Q fun d v F2 H2 g P2 hd hR => q d v F2 H2 g (P2.mono (Same.refl _) (by omega)) hd hR
theorem Px.go {n : Nat} (h : Px p c X e σ F R) (s : Same F H) (f : F p = none) (P : Pool H p n) (hn : n + c ≤ 1000000) {Q : VK} (q : ∀ d v F2 H2, Gp p F H F2 H2 → Pool H2 p (n + c) → Da F2 d v → R d → Q v H2) : WE X e σ H Q := h n F H (Same.refl _) s f P hn Q q
theorem PxT.go {R : Bool → Prop} {n : Nat} (h : PxT p c X e σ F R) (s : Same F H) (f : F p = none) (P : Pool H p n) (hn : n + c ≤ 1000000) {Q : Bool → Hp → Prop} (q : ∀ b F2 H2, Gp p F H F2 H2 → Pool H2 p (n + c) → R b → Q b H2) : WT X e σ H Q := h n F H (Same.refl _) s f P hn Q q
end
/-! ## comprehensions that draw -/
/-- .. and what is told is new -/
def PxN (p : Addr) (c : Nat) (X : Cx) (e : Expr) (σ : St) (F : Hp) (R : PyData → Prop) : Prop := ∀ n F1 H1, Same F F1 → Same F1 H1 → F1 p = none → Pool H1 p n → n + c ≤ 1000000 → ∀ Q : VK, (∀ d v F2 H2, Gp p F1 H1 F2 H2 → Pool H2 p (n + c) → Da F2 d v → R d → (∀ a, v = .ref a → H1 a = none) → Q v H2) → WE X e σ H1 Q
theorem PxN.imp {p : Addr} {c : Nat} {X : Cx} {e : Expr} {σ : St} {F : Hp} {R R' : PyData → Prop} (h : PxN p c X e σ F R) (k : ∀ d, R d → R' d) : PxN p c X e σ F R' := fun n F1 H1 s1 s2 f P hn Q q => h n F1 H1 s1 s2 f P hn Q fun d v F2 H2 g P2 hd hR hf => q d v F2 H2 g P2 hd (k d hR) hf
theorem PxN.up {p : Addr} {c c1 : Nat} {X : Cx} {e : Expr} {σ : St} {F : Hp} {R : PyData → Prop} (h : PxN p c X e σ F R) (hc : c ≤ c1) : PxN p c1 X e σ F R := fun n F1 H1 s1 s2 f P hn Q q => h n F1 H1 s1 s2 f P (by omega) Q fun d v F2 H2 g P2 hd hR hf => q d v F2 H2 g (P2.mono (Same.refl _) (by omega)) hd hR hf
theorem PxN.go {p : Addr} {c n : Nat} {X : Cx} {e : Expr} {σ : St} {F H : Hp} {R : PyData → Prop} (h : PxN p c X e σ F R) (s : Same F H) (f : F p = none) (P : Pool H p n) (hn : n + c ≤ 1000000) {Q : VK} (q : ∀ d v F2 H2, Gp p F H F2 H2 → Pool H2 p (n + c) → Da F2 d v → R d → (∀ a, v = .ref a → H a = none) → Q v H2) : WE X e σ H Q := h n F H (Same.refl _) s f P hn Q q
/-! ## defs that draw -/
/-- .. that tells a new thing -/
def spN (c n : Nat) (pre : List PyData → Prop) (post : List PyData → PyData → Prop) : Sp := fun vs H Q _ => ∃ (p : Addr) (m : Nat) (F : Hp) (ds : List PyData) (us : List V), vs = .ref p :: us ∧ ds.length = n ∧ Pool H p m ∧ m + c ≤ 1000000 ∧ Same F H ∧ F p = none ∧ DaAll F ds us ∧ pre ds ∧
  ∀ d v F2 H2, Gp p F H F2 H2 → Pool H2 p (m + c) → Da F2 d v → post ds d → (∀ a, v = .ref a → H a = none) → Q v H2
section
variable {P : Program} {w : World} {K : PySem.W.Frag} {mg : Str → Option Value} {base : Heap}
theorem okN {x qual : Str} {st : Stmt} {f : Addr} {fd : FuncData} {N ps : List Str} {k c n : Nat} {pre : List PyData → Prop} {post : List PyData → PyData → Prop} (F : Fun K x qual st f fd) (S : FnScope N ps (defScope st)) (hn : ps.length = n + 1)
    (hbody : ∀ (X : Cx) (cdv : Value) (A : Around) (outer : List Env) (s : Shared) (H0 : Hp) (E : XK) (p : Addr) (m : Nat) (us : List V) (F H : Hp) (ds : List PyData) (Q : VK), X = (cxOf CX0 P w K mg base N qual (defScope st) f cdv A outer s H0 E).nox → Room k X.A → Pool H p m → m + c ≤ 1000000 → Same F H → F p = none → DaAll F ds us → pre ds →
      (∀ d v F2 H2, Gp p F H F2 H2 → Pool H2 p (m + c) → Da F2 d v → post ds d → (∀ a, v = .ref a → H a = none) → Q v H2) → WSs X (defBody st) { nx := fun _ H' => Q .non H', rt := Q } (start N (.ref p :: us)) H) : FnOk P w K mg base CX0 (k + 1) f fd ps (spN c n pre post) :=
  okW F S (fun vs H Q E ⟨p, m, F, ds, us, e, hl, _, _, _, _, ha, _⟩ => by rw [e, List.length_cons, ha.length, hl, hn]) fun cdv A outer s H vs Q E hr ⟨p, m, F, ds, us, e, hl, hP, hm, hs, hp, ha, hpre, q⟩ => by
    subst e
    exact hbody _ cdv A outer s H E p m us F H ds Q rfl hr hP hm hs hp ha hpre q
end
/-! ## the script -/
section
variable {X : Cx} {σ : St} {F H : Hp} {e a b : Expr} {pos p : Pos} {l : Addr} {ns : List Int} {i : Int}
theorem de_lenQ (hm : X.mg "len" = none) (ha : VE X e σ F H (.ref l)) (hq : SqL X.K F l (ns.map V.int)) (hg : Gl X "len" := by rfl) (pl : Pl X e [] pos := by exact ⟨rfl, rfl⟩) : DE X (.Call (.Name "len" p) [e] [] pos) σ F H (.int ns.length) := fun F1 H1 g Q q =>
  we_of (pe_callB call_len hg hm PySem.boot_len (pa_cons pe_we pa_nil pl.he) (by decide) (by decide) pl.he pl.hpl) (ha F1 H1 g _ fun F2 H2 g2 => ⟨_, (ns.map V.int).length, rfl, .inl ⟨_, (g.trans g2).same.seq hq, rfl⟩, q _ F2 H2 g2 (by rw [List.length_map]; rfl)⟩)
theorem de_ixQ {n : Int} (ha : VE X a σ F H (.ref l)) (hb : DE X b σ F H (.int i)) (hq : SqL X.K F l (ns.map V.int)) (h0 : 0 ≤ i) (hn : ns[i.toNat]? = some n) (hs : PlainIx b := by exact fun _ _ => rfl) : DE X (.Subscript a b pos) σ F H (.int n) := fun F1 H1 g Q q =>
  we_of (pe_ix ix_list pe_we pe_we hs) (ha F1 H1 g _ fun F2 H2 g2 => hb F2 H2 (g.trans g2) _ fun y F3 H3 g3 hy =>
    ⟨l, ns.map V.int, i, .int n, rfl, hy, ((g.trans g2).trans g3).same.seq hq, at_of (j := i.toNat) (by omega) (by rw [List.getElem?_map, hn]; rfl), q _ F3 H3 (g2.trans g3) rfl⟩)
end
section
variable {X : Cx} {σ : St} {F H : Hp} {e a b : Expr} {pos p : Pos} {i j : Int}
/-- a new list that stays open -/
theorem we_lst {es : List Expr} {ds : List PyData} (h : DL X es σ F F ds) (s : Same F H) (hz : ds.length ≤ sizeLine) {Q : VK} (q : ∀ l vs F2 H2, Gr F H F2 H2 → DaAll F2 ds vs → H2 l = none → Q (.ref l) (upd H2 l (.lst vs))) : WE X (.List es pos) σ H Q :=
  we_of (pe_lst pa_wa) (h.at s fun vs F2 H2 g2 hvs => ⟨by rw [hvs.length]; exact hz, fun l hl => q l vs F2 H2 g2 hvs hl⟩)
end
end Kr
/-! layer Kr8 -/
namespace Kr
open PySem L2
/-! ## texts of letters -/
def LS (x : Str) : Prop := ∀ c ∈ x.cps.toList, c ∈ letters.cps.toList
theorem isKind_iff {x : Str} : isKind x = true ↔ LS x ∧ 1 ≤ x.length ∧ x.length ≤ 4 := by
  unfold isKind LS
  simp only [Bool.and_eq_true, List.all_eq_true, decide_eq_true_eq]
  constructor
  · rintro ⟨⟨h1, h2⟩, h3⟩; exact ⟨h3, by omega, by omega⟩
  · rintro ⟨h1, h2, h3⟩; exact ⟨⟨by omega, by omega⟩, h1⟩
theorem str_append_cps (x y : Str) : (x ++ y).cps.toList = x.cps.toList ++ y.cps.toList := by
  show (x.cps ++ y.cps).toList = _
  simp
theorem LS.append {x y : Str} (h : LS x) (h' : LS y) : LS (x ++ y) := fun c hc => by
  rw [str_append_cps] at hc
  rcases List.mem_append.mp hc with z | z
  · exact h c z
  · exact h' c z
theorem LS.one {c : Nat} (h : c ∈ letters.cps.toList) : LS ⟨#[c]⟩ := fun d hd => by
  have : d = c := by simpa using hd
  rw [this]; exact h
theorem subset_length {α : Type} [DecidableEq α] : ∀ {l ks : List α}, l.Nodup → (∀ x ∈ l, x ∈ ks) → l.length ≤ ks.length
  | [], _, _, _ => Nat.zero_le _
  | x :: l, ks, hn, h => by
    have hx : x ∈ ks := h x List.mem_cons_self
    have hn' := List.nodup_cons.mp hn
    have := subset_length (ks := ks.erase x) hn'.2 fun y hy => by
      have hne : y ≠ x := fun e => by subst e; exact hn'.1 hy
      exact (List.mem_erase_of_ne hne).mpr (h y (List.mem_cons_of_mem _ hy))
    rw [List.length_erase_of_mem hx] at this
    have : 0 < ks.length := List.length_pos_of_mem hx
    simp only [List.length_cons]
    omega
/-! ## rules for texts -/
/-! ## methods of lists -/
structure Bm (X : Cx) (o : Expr) (name : Str) (e : Expr) (es : List Expr) (apos cpos : Pos) : Prop where
  hbase : attributeBase o name X.env (eval o X.env) = eval o X.env
  hfew : ((backTo cpos (starEach (e :: es) X.env)).all (fun x => !x.1) && (backToKw cpos (keywordEach [] X.env)).all (fun x => x.1.isSome)
      && decide ((e :: es).length + ([] : List Keyword).length + (if ([] : List Keyword).isEmpty then 0 else 1) < 30)) = true
  hline : (apos.endLine == cpos.line) = true
  hs : starEach (e :: es) X.env = (false, eval e X.env) :: starEach es X.env
  hplain : (backTo cpos (starEach es X.env)).any (·.1) = false
theorem Gp.back {p : Addr} {F F' H F2 H2 : Hp} (g : Gp p F' H F2 H2) (s : Same F F') : Gp p F H F H2 := ⟨Same.refl _, s.trans (g.ff.trans g.fh), g.hh, g.at', fun _ e _ => e⟩
theorem Gr.back {F F' H F2 H2 : Hp} (g : Gr F' H F2 H2) (s : Same F F') : Gr F H F H2 := ⟨Same.refl _, s.trans (g.ff.trans g.fh), g.hh, fun _ e _ => e⟩
theorem Same.cell {F H : Hp} {l : Addr} {o : HO} (s : Same F H) (h : H l = some o) : Same (upd F l o) H := fun b x e => by
  by_cases hb : b = l
  · subst hb; rw [upd_same] at e; rw [h]; exact e
  · rw [upd_ne hb] at e; exact s _ _ e
end Kr
/-! layer Kr9 -/
namespace Kr
open PySem L2
/-! ## all that is new is told for the time being -/
def Fz (F0 H0 H : Hp) : Hp := fun b => if ((H0 b).isNone || (F0 b).isSome) = true then H b else none
/-- behind a start at F0, H0: all but the pool stands; so many drawings -/
structure HS (p : Addr) (F0 H0 H : Hp) (n : Nat) : Prop where
  s0 : Same F0 H0
  f0 : F0 p = none
  p0 : H0 p ≠ none
  hh : ∀ b o, b ≠ p → H0 b = some o → H b = some o
  P : Pool H p n
section
variable {p : Addr} {F0 H0 H H2 F2 : Hp} {n m : Nat} {q : Addr} {o : HO}
theorem Fz.new (h : H0 q = none) : Fz F0 H0 H q = H q := by
  unfold Fz
  rw [h]
  rfl
theorem Fz.le : Same (Fz F0 H0 H) H := fun b x e => by
  unfold Fz at e
  split at e
  · exact e
  · cases e
theorem HS.sF (s : HS p F0 H0 H n) : Same F0 H := fun b x e => s.hh b x (ne_of_none e s.f0) (s.s0 b x e)
theorem HS.sz (s : HS p F0 H0 H n) : Same F0 (Fz F0 H0 H) := fun b x e => by
  unfold Fz
  rw [e]
  show (if ((H0 b).isNone || true) = true then H b else none) = some x
  rw [Bool.or_true, if_pos rfl]
  exact s.sF b x e
theorem HS.gp (s : HS p F0 H0 H n) : Gp p F0 H0 (Fz F0 H0 H) H := ⟨s.sz, Fz.le, s.hh, fun _ => (by obtain ⟨o, ho⟩ := s.P.some; rw [ho]; exact fun z => nomatch z), fun b e hn => by
  unfold Fz
  rw [e]
  cases h : H0 b with
  | none => exact absurd h hn
  | some o => rfl⟩
theorem HS.step (s : HS p F0 H0 H n) (g : Gp p (Fz F0 H0 H) H F2 H2) (P : Pool H2 p m) : HS p F0 H0 H2 m := ⟨s.s0, s.f0, s.p0, fun b o hb e => g.hh b o hb (s.hh b o hb e), P⟩
theorem HS.gr (s : HS p F0 H0 H n) {F : Hp} (g : Gr F H F2 H2) : HS p F0 H0 H2 n := ⟨s.s0, s.f0, s.p0, fun b o hb e => g.hh b o (s.hh b o hb e), s.P.mono g.hh⟩
theorem HS.up (s : HS p F0 H0 H n) (h : n ≤ m) : HS p F0 H0 H m := ⟨s.s0, s.f0, s.p0, s.hh, s.P.mono (Same.refl _) h⟩
theorem HS.ne (s : HS p F0 H0 H n) (h : H0 q = none) : q ≠ p := fun z => by subst z; exact s.p0 h
theorem HS.ne' (s : HS p F0 H0 H n) (h : H q = none) : q ≠ p := fun z => by
  subst z
  obtain ⟨o, ho⟩ := s.P.some
  rw [ho] at h; cases h
theorem HS.free (s : HS p F0 H0 H n) (h : H q = none) : H0 q = none := by
  cases e : H0 q with
  | none => rfl
  | some o => rw [s.hh q o (s.ne' h) e] at h; cases h
theorem HS.mut (s : HS p F0 H0 H n) (h : H0 q = none) : HS p F0 H0 (upd H q o) n := ⟨s.s0, s.f0, s.p0, fun b u hb e => by rw [upd_ne (ne_of_none e h)]; exact s.hh b u hb e, by
  obtain ⟨c, k, t, h1, h2, h3, h4⟩ := s.P
  exact ⟨c, k, t, by rw [upd_ne (fun z => s.ne h z.symm)]; exact h1, h2, h3, h4⟩⟩
theorem HS.start (s : Same F0 H0) (f : F0 p = none) (P : Pool H0 p n) : HS p F0 H0 H0 n := ⟨s, f, (by obtain ⟨o, ho⟩ := P.some; rw [ho]; exact fun z => nomatch z), fun _ _ _ e => e, P⟩
/-- what stands at new addresses is told -/
theorem HS.ks (h : H0 q = none) {ks : List Str} (e : H q = some (.lst (ks.map V.str))) : Da (Fz F0 H0 H) (ksD ks) (.ref q) := ⟨q, _, rfl, by rw [Fz.new h]; exact e, daAll_strs ks⟩
end
/-! ## rooms that are being made -/
structure RC where
  t : Addr
  d : Addr
  k : Addr
  locks : List Str
  keys : List Str
structure RoomAt (H0 H : Hp) (r : RC) : Prop where
  t0 : H0 r.t = none
  d0 : H0 r.d = none
  k0 : H0 r.k = none
  ht : H r.t = some (.tup [.ref r.d, .ref r.k])
  hd : H r.d = some (.lst (r.locks.map V.str))
  hk : H r.k = some (.lst (r.keys.map V.str))
def RC.room (r : RC) : Room' := (r.locks, r.keys)
theorem RoomAt.da {F0 H0 H : Hp} {r : RC} (h : RoomAt H0 H r) : Da (Fz F0 H0 H) (roomD r.room) (.ref r.t) :=
  ⟨r.t, _, rfl, by rw [Fz.new h.t0]; exact h.ht, daAll_cons (HS.ks h.d0 h.hd) (daAll_cons (HS.ks h.k0 h.hk) daAll_nil)⟩
theorem RoomAt.keep {H0 H H2 : Hp} {r : RC} (h : RoomAt H0 H r) (k : ∀ b o, (b = r.t ∨ b = r.d ∨ b = r.k) → H b = some o → H2 b = some o) : RoomAt H0 H2 r :=
  ⟨h.t0, h.d0, h.k0, k _ _ (.inl rfl) h.ht, k _ _ (.inr (.inl rfl)) h.hd, k _ _ (.inr (.inr rfl)) h.hk⟩
/-- what a drawn house is -/
structure HouseOf (most tot : Nat) (h : House) : Prop where
  good : GoodHouse h
  rooms : h.2.length ≤ most
  begin' : h.1.length ≤ tot
  each : ∀ r ∈ h.2, r.2.length ≤ tot
  total : (h.2.map fun r => r.2.length).sum ≤ tot
  kinds : ∃ ks : List Str, ks.length ≤ 60 ∧ (∀ k ∈ h.1, k ∈ ks) ∧ ∀ r ∈ h.2, (∀ k ∈ r.1, k ∈ ks) ∧ ∀ k ∈ r.2, k ∈ ks
theorem PxT.imp {p : Addr} {c : Nat} {X : Cx} {e : Expr} {σ : St} {F : Hp} {R R' : Bool → Prop} (h : PxT p c X e σ F R) (k : ∀ b, R b → R' b) : PxT p c X e σ F R' := fun n F1 H1 s1 s2 f P hn Q q => h n F1 H1 s1 s2 f P hn Q fun b F2 H2 g P2 hR => q b F2 H2 g P2 (k b hR)
section
variable {p : Addr} {F0 H0 H H2 F2 : Hp} {n m : Nat} {q : Addr} {o : HO}
theorem HS.keep (s : HS p F0 H0 H n) (g : Gp p (Fz F0 H0 H) H F2 H2) : Same F2 (Fz F0 H0 H2) := fun b x e => by
  have h2 := g.fh b x e
  have hb : ((H0 b).isNone || (F0 b).isSome) = true := by
    cases hh : ((H0 b).isNone || (F0 b).isSome) with
    | true => rfl
    | false =>
      have hz : Fz F0 H0 H b = none := by unfold Fz; rw [hh]; rfl
      have hne : H b ≠ none := by
        intro z
        have := s.free z
        rw [this] at hh
        simp at hh
      rw [g.new b hz hne] at e
      cases e
  unfold Fz
  rw [hb, if_pos rfl]
  exact h2
end
end Kr
/-! layer KrS -/
namespace Kr
open PySem PySem.Spec PyProof.Rows
/-! ## sets of texts -/
def txtOf (e : Int × Value) : Str := match e.2 with | .str x _ => x | _ => ⟨#[]⟩
def EntS (w : World) (e : Int × Value) : Prop := ∃ x tk, e.2 = Value.str x tk ∧ e.1 = hashStr w x
/-- the set at a: its texts, in the order of its rows -/
def StrSet (w : World) (h : Heap) (a : Addr) (L : List Str) : Prop := ∃ ob rows ep tb, h.get? a = some ob ∧ ob.ExactSet ∧ ob.data = .set rows ep tb ∧ (∀ e ∈ rows.toList, EntS w e) ∧ rows.toList.map txtOf = L ∧ L.Nodup ∧
  rows.size < scanBound ∧ tb.fits rows.size = true ∧ L2.Ris tb.place.toList ∧ (w.params.followText "set-order" = true ∨ tb.led = true)
section
variable {P : Program} {w : World} {A : Around} {E : Value → Shared → Prop} {s : Shared} {a : Addr} {L : List Str} {h h' : Heap}
theorem StrSet.at (R : StrSet w h a L) (k : ∀ o, h.get? a = some o → h'.get? a = some o) : StrSet w h' a L := by
  obtain ⟨ob, rows, ep, tb, h1, rest⟩ := R
  exact ⟨ob, rows, ep, tb, k ob h1, rest⟩
end
/-- of these texts, each once -/
def Met (xs L : List Str) : Prop := L.Nodup ∧ ∀ x, x ∈ L ↔ x ∈ xs
theorem Met.next {xs L L' : List Str} {i : Nat} {x : Str} (m : Met (xs.take i) L) (hx : xs[i]? = some x) (c : (x ∈ L ∧ L' = L) ∨ (x ∉ L ∧ L'.Perm (x :: L))) : Met (xs.take (i + 1)) L' := by
  rw [List.take_add_one, hx]
  rcases c with ⟨h, rfl⟩ | ⟨h, pm⟩
  · refine ⟨m.1, fun y => ?_⟩
    rw [m.2 y]
    simp only [Option.toList_some, List.mem_append, List.mem_singleton]
    exact ⟨.inl, fun z => z.elim id fun e => by subst e; exact (m.2 y).mp h⟩
  · refine ⟨pm.nodup_iff.mpr (List.nodup_cons.mpr ⟨h, m.1⟩), fun y => ?_⟩
    rw [pm.mem_iff, List.mem_cons, m.2 y]
    simp only [Option.toList_some, List.mem_append, List.mem_singleton]
    exact Or.comm
theorem Met.len {xs L : List Str} (m : Met xs L) : L.length ≤ xs.length := subset_length m.1 fun x h => (m.2 x).mp h
end Kr
/-! layer KrT -/
namespace Kr
open PySem L2
/-! ## set(xs), sorted of it -/
/-- the kinds of a list, sorted, each once -/
def kset (xs : List Str) : List Str := srt xs.eraseDups
theorem eraseDups_met : ∀ (n : Nat) (xs : List Str), xs.length ≤ n → Met xs xs.eraseDups
  | 0, [], _ => ⟨List.nodup_nil, fun x => by simp⟩
  | n + 1, [], _ => ⟨List.nodup_nil, fun x => by simp⟩
  | n + 1, x :: xs, h => by
    rw [List.eraseDups_cons]
    have hl : (xs.filter fun b => !b == x).length ≤ n := Nat.le_trans (List.length_filter_le _ _) (by simpa using h)
    obtain ⟨h1, h2⟩ := eraseDups_met n _ hl
    refine ⟨List.nodup_cons.mpr ⟨fun z => ?_, h1⟩, fun y => ?_⟩
    · have := (h2 x).mp z
      simp at this
    · rw [List.mem_cons, h2 y, List.mem_filter, List.mem_cons]
      by_cases e : y = x
      · simp [e]
      · simp [e]
theorem perm_of_nodup : ∀ {xs ys : List Str}, xs.Nodup → ys.Nodup → (∀ x, x ∈ xs ↔ x ∈ ys) → xs.Perm ys := fun {xs ys} h1 h2 h => by
  rw [List.perm_iff_count]
  intro a
  by_cases ha : a ∈ xs
  · have c1 := (List.nodup_iff_count.mp h1) a
    have c2 := (List.nodup_iff_count.mp h2) a
    have c3 := List.count_pos_iff.mpr ha
    have c4 := List.count_pos_iff.mpr ((h a).mp ha)
    omega
  · rw [List.count_eq_zero.mpr ha, List.count_eq_zero.mpr (fun z => ha ((h a).mpr z))]
theorem mem_kset {xs : List Str} {x : Str} : x ∈ kset xs ↔ x ∈ xs := mem_srt.trans ((eraseDups_met _ xs (Nat.le_refl _)).2 x)
theorem kset_nodup (xs : List Str) : (kset xs).Nodup := (srt_perm _).nodup_iff.mpr (eraseDups_met _ xs (Nat.le_refl _)).1
theorem kset_sorted (xs : List Str) : (kset xs).Pairwise (fun a b => leS a b = true) := srt_sorted _
end Kr
/-! layer KrU -/
namespace Kr
open PySem L2
/-! ## defs that tell something new of data -/
section
variable {X : Cx} {σ : St} {F H : Hp} {e o : Expr} {es : List Expr} {ds : List PyData} {k n : Nat} {f : Addr} {fd : FuncData} {ps : List Str} {pre : List PyData → Prop} {post : List PyData → PyData → Prop} {x : Str} {p pos apos cpos : Pos} {D : Ends} {d : PyData} {l : Addr} {xs : List V}
/-- what is new and one of R -/
def NE (X : Cx) (e : Expr) (σ : St) (F H : Hp) (R : PyData → Prop) : Prop := ∀ F1 H1, Gr F H F1 H1 → ∀ Q : VK, (∀ d v F2 H2, Gr F1 H1 F2 H2 → Da F2 d v → R d → (∀ a, v = .ref a → H1 a = none) → Q v H2) → WE X e σ H1 Q
theorem NE.go {R : PyData → Prop} (h : NE X e σ F H R) (s : Same F H) {Q : VK} (q : ∀ d v F2 H2, Gr F H F2 H2 → Da F2 d v → R d → (∀ a, v = .ref a → H a = none) → Q v H2) : WE X e σ H Q := h F H (.refl s) Q q
end
/-! ## what comes -/
inductive Comes (h : House) : Str → Prop
  | begin' {k : Str} : k ∈ h.1 → Comes h k
  | room {r : Room'} {k : Str} : r ∈ h.2 → (∀ l ∈ r.1, Comes h l) → k ∈ r.2 → Comes h k
def IsCome (h : House) (c : List Str) : Prop := (∀ x, x ∈ c ↔ Comes h x) ∧ c.Nodup ∧ c.Pairwise (fun a b => leS a b = true)
theorem IsCome.unique {h : House} {c d : List Str} (a : IsCome h c) (b : IsCome h d) : c = d := sorted_unique (perm_of_nodup a.2.1 b.2.1 fun x => (a.1 x).trans (b.1 x).symm) a.2.2 b.2.2
/-- closed under the rooms, and no more than comes -/
theorem isCome_of {h : House} {c : List Str} (h1 : ∀ x ∈ c, Comes h x) (h2 : ∀ x ∈ h.1, x ∈ c) (h3 : ∀ r ∈ h.2, (∀ l ∈ r.1, l ∈ c) → ∀ k ∈ r.2, k ∈ c) (h4 : c.Nodup) (h5 : c.Pairwise (fun a b => leS a b = true)) : IsCome h c := by
  refine ⟨fun x => ⟨h1 x, fun hx => ?_⟩, h4, h5⟩
  induction hx with
  | begin' h => exact h2 _ h
  | room hr _ hk ih => exact h3 _ hr ih _ hk
def keysIn (rs : List Room') : Nat := (rs.map fun r => r.2.length).sum
structure Small (h : House) : Prop where
  good : GoodHouse h
  b : h.1.length ≤ 1000
  r : h.2.length ≤ 1000
  k : keysIn h.2 ≤ 1000
end Kr
/-! layer KrV -/
namespace Kr
open PySem L2
/-! ## ints in lists -/
theorem ints_unique : ∀ {xs ys : List Int}, xs.Perm ys → xs.Pairwise (· ≤ ·) → ys.Pairwise (· ≤ ·) → xs = ys
  | [], ys, p, _, _ => (List.nil_perm.mp p).symm
  | x :: xs, [], p, _, _ => by simpa using p.length_eq
  | x :: xs, y :: ys, p, h1, h2 => by
    have e : x = y := by
      have hx : x ∈ y :: ys := p.mem_iff.mp List.mem_cons_self
      have hy : y ∈ x :: xs := p.mem_iff.mpr List.mem_cons_self
      rcases List.mem_cons.mp hx with e | hx
      · exact e
      rcases List.mem_cons.mp hy with e | hy
      · exact e.symm
      exact Int.le_antisymm (List.rel_of_pairwise_cons h1 hy) (List.rel_of_pairwise_cons h2 hx)
    subst e
    rw [ints_unique ((List.perm_cons x).mp p) h1.of_cons h2.of_cons]
def srtI (xs : List Int) : List Int := xs.mergeSort fun a b => decide (a ≤ b)
theorem srtI_perm (xs : List Int) : (srtI xs).Perm xs := List.mergeSort_perm _ _
theorem srtI_sorted (xs : List Int) : (srtI xs).Pairwise (· ≤ ·) := by
  have := List.pairwise_mergeSort (le := fun a b : Int => decide (a ≤ b)) (fun a b c h1 h2 => by simp only [decide_eq_true_eq] at *; omega) (fun a b => by simp only [Bool.or_eq_true, decide_eq_true_eq]; omega) xs
  exact this.imp fun h => of_decide_eq_true h
section
variable {X : Cx} {σ : St} {F H : Hp} {e a b o : Expr} {pos p apos p2 : Pos} {x : Int} {xs : List Int}
theorem de_intB {bb : Bool} (hm : X.mg "int" = none) (ha : DE X e σ F H (.bool bb)) (hg : Gl X "int" := by rfl) (l : Pl X e [] pos := by exact ⟨rfl, rfl⟩) : DE X (.Call (.Name "int" p) [e] [] pos) σ F H (.int (if bb then 1 else 0)) :=
  de_callTy call_int1 hg hm (by decide +kernel) (dl_cons ha dl_nil l.he) (fun vs F1 H1 g1 hv Q q => by
    obtain ⟨v, rfl, hd⟩ := daAll1 hv
    obtain rfl : v = .bl bb := hd
    exact .inr ⟨bb, rfl, q _ F1 H1 (.refl g1.fh) rfl⟩) ⟨by decide, by decide⟩ l
end
/-! ## a sign, some times -/
def repS (x : Str) (n : Int) : Str := if n = 1 then x else ⟨(List.replicate n.toNat x.cps).foldl (· ++ ·) #[]⟩
theorem op_repS {X : Cx} : OpR X (binaryOp .Mult) (fun x y H Q => ∃ z n, x = V.str z ∧ y = V.int n ∧ 1 ≤ n ∧ n ≤ 1000 ∧ z.length = 1 ∧ Q (.str (repS z n)) H) := by
  intro pins s σ H x y v u Q I rx ry h
  obtain ⟨z, n, rfl, rfl, h1, h2, hz, q⟩ := h
  obtain ⟨t, rfl⟩ := rx
  obtain ⟨t', rfl⟩ := ry
  have hl : PySem.Builtin.Str.tooLong (z.length * n.toNat) = false := by
    rw [hz, Nat.one_mul]
    unfold PySem.Builtin.Str.tooLong
    simp only [decide_eq_false_iff_not]
    have : sizeLine = 16777216 := by decide
    omega
  refine PySem.P.mul_str (by rw [decide_eq_false (by omega), decide_eq_false (by omega)]; rfl) (fun _ _ => by
    rw [hz]
    have : (1 : Int) ≤ (2 ^ 63 - 1) / n := Int.le_ediv_of_mul_le (by omega) (by omega)
    show ¬ ((1 : Nat) : Int) > _
    omega) (fun _ _ => hl) ?_
  rw [if_neg (by omega)]
  unfold repS at q
  by_cases hn : n = 1
  · subst hn
    rw [if_pos rfl] at q
    rw [if_pos (by rfl)]
    exact ⟨.str z, H, I, ⟨_, rfl⟩, q⟩
  · rw [if_neg hn] at q
    rw [if_neg (by simp [hn, hz])]
    exact ⟨PySem.fits_reps hl, .str _, H, I.tok _, ⟨_, rfl⟩, q⟩
/-! ## the come of a house, as the law takes it -/
structure LC (h : House) (c : List Str) (R : List Int) : Prop where
  hc : ∀ x ∈ c, Comes h x
  hb : ∀ x ∈ h.1, x ∈ c
  nd : c.Nodup
  st : c.Pairwise (fun a b => leS a b = true)
  rn : R.Nodup
  rr : ∀ i ∈ R, ∃ j : Nat, i = j ∧ j < h.2.length
  rk : ∀ j : Nat, (j : Int) ∈ R → ∀ r, h.2[j]? = some r → (∀ l ∈ r.1, l ∈ c) ∧ ∀ k ∈ r.2, k ∈ c
theorem LC.start (h : House) : LC h (kset h.1) [] := ⟨fun x hx => .begin' (mem_kset.mp hx), fun x hx => mem_kset.mpr hx, kset_nodup _, kset_sorted _, List.nodup_nil, (fun _ h => nomatch h), (fun _ h => nomatch h)⟩
theorem LC.step {h : House} {c : List Str} {R : List Int} {j : Nat} {r : Room'} (L : LC h c R) (hr : h.2[j]? = some r) (hj : (j : Int) ∉ R) (hl : ∀ l ∈ r.1, l ∈ c) : LC h (kset (c ++ r.2)) (R ++ [(j : Int)]) := by
  have sub : ∀ x ∈ c, x ∈ kset (c ++ r.2) := fun x hx => mem_kset.mpr (List.mem_append_left _ hx)
  refine ⟨fun x hx => ?_, fun x hx => sub x (L.hb x hx), kset_nodup _, kset_sorted _, ?_, fun i hi => ?_, fun k hk s hs => ?_⟩
  · rcases List.mem_append.mp (mem_kset.mp hx) with hx | hx
    · exact L.hc x hx
    · exact .room (List.mem_of_getElem? hr) (fun l hl' => L.hc l (hl l hl')) hx
  · exact List.nodup_append.mpr ⟨L.rn, List.nodup_cons.mpr ⟨(fun h => nomatch h), List.nodup_nil⟩, fun a ha b hb e => by
      rw [List.mem_singleton] at hb
      subst hb; subst e
      exact hj ha⟩
  · rcases List.mem_append.mp hi with hi | hi
    · exact L.rr i hi
    · rw [List.mem_singleton] at hi
      exact ⟨j, hi, (List.getElem?_eq_some_iff.mp hr).1⟩
  · rcases List.mem_append.mp hk with hk | hk
    · obtain ⟨h1, h2⟩ := L.rk k hk s hs
      exact ⟨fun l hl => sub l (h1 l hl), fun l hl => sub l (h2 l hl)⟩
    · rw [List.mem_singleton] at hk
      have : k = j := by omega
      subst this
      rw [hr] at hs
      injection hs with hs
      subst hs
      exact ⟨fun l hl' => sub l (hl l hl'), fun l hl' => mem_kset.mpr (List.mem_append_right _ hl')⟩
theorem LC.len {h : House} {c : List Str} {R : List Int} (L : LC h c R) : R.length ≤ h.2.length := by
  have := subset_length (ks := (List.range h.2.length).map fun j : Nat => (j : Int)) L.rn fun i hi => by
    obtain ⟨j, rfl, hj⟩ := L.rr i hi
    exact List.mem_map.mpr ⟨j, List.mem_range.mpr hj, rfl⟩
  simpa using this
def IsOpen (h : House) (R : List Int) : Prop := R.Pairwise (· ≤ ·) ∧ R.Nodup ∧ ∀ i : Int, i ∈ R ↔ ∃ j : Nat, i = j ∧ ∃ r, h.2[j]? = some r ∧ ∀ l ∈ r.1, Comes h l
theorem LC.done {h : House} {c : List Str} {R : List Int} (L : LC h c R) (hd : ∀ (j : Nat) r, h.2[j]? = some r → (j : Int) ∈ R ∨ ¬ ∀ l ∈ r.1, l ∈ c) : IsCome h c ∧ IsOpen h (srtI R) := by
  have C : IsCome h c := isCome_of L.hc L.hb (fun r hr hl k hk => by
    obtain ⟨j, hj⟩ := List.getElem?_of_mem hr
    rcases hd j r hj with h1 | h1
    · exact (L.rk j h1 r hj).2 k hk
    · exact absurd hl h1) L.nd L.st
  refine ⟨C, srtI_sorted _, (srtI_perm R).nodup_iff.mpr L.rn, fun i => ?_⟩
  rw [(srtI_perm R).mem_iff]
  constructor
  · intro hi
    obtain ⟨j, rfl, hj⟩ := L.rr i hi
    exact ⟨j, rfl, h.2[j], List.getElem?_eq_getElem hj, fun l hl => L.hc l ((L.rk j hi _ (List.getElem?_eq_getElem hj)).1 l hl)⟩
  · rintro ⟨j, rfl, r, hr, hl⟩
    rcases hd j r hr with h1 | h1
    · exact h1
    · exact absurd (fun l hl' => (C.1 l).mpr (hl l hl')) h1
theorem one_le {r : Room'} : ∀ {rs : List Room'}, r ∈ rs → r.2.length ≤ keysIn rs
  | x :: rs, h => by
    have e : keysIn (x :: rs) = x.2.length + keysIn rs := by unfold keysIn; rw [List.map_cons, List.sum_cons]
    rcases List.mem_cons.mp h with rfl | h
    · omega
    · have := one_le h
      omega
end Kr
/-! layer KrW -/
namespace Kr
open PySem L2
/-! ## y = [.. for .. in range(e)], by a word of the turn and the heap -/
/-! ## the chain's names -/
/-- a house of a chain -/
structure ChainOf (most : Nat) (h : House) : Prop where
  good : GoodHouse h
  rooms : h.2.length ≤ most
  some : 1 ≤ h.2.length
  begin' : h.1.length ≤ 2
  each : ∀ r ∈ h.2, r.2.length ≤ 2
  kinds : ∃ ks : List Str, ks.length ≤ most + 1 ∧ (∀ k ∈ h.1, k ∈ ks) ∧ ∀ r ∈ h.2, (∀ k ∈ r.1, k ∈ ks) ∧ ∀ k ∈ r.2, k ∈ ks
theorem each_sum {n : Nat} : ∀ {rs : List Room'}, (∀ r ∈ rs, r.2.length ≤ n) → keysIn rs ≤ n * rs.length
  | [], _ => Nat.zero_le _
  | r :: rs, h => by
    have e : keysIn (r :: rs) = r.2.length + keysIn rs := by unfold keysIn; rw [List.map_cons, List.sum_cons]
    have h1 := h r List.mem_cons_self
    have h2 := each_sum (n := n) (rs := rs) fun s hs => h s (List.mem_cons_of_mem _ hs)
    rw [e, List.length_cons, Nat.mul_add]
    omega
theorem ChainOf.small {most : Nat} {h : House} (c : ChainOf most h) (hm : most ≤ 100) : Small h := ⟨c.good, by have := c.begin'; omega, by have := c.rooms; omega, by
  have := each_sum c.each
  have := c.rooms
  omega⟩
theorem HouseOf.small {most tot : Nat} {h : House} (c : HouseOf most tot h) (hm : most ≤ 1000) (ht : tot ≤ 1000) : Small h := ⟨c.good, by have := c.begin'; omega, by have := c.rooms; omega, Nat.le_trans c.total ht⟩
theorem srt_srt (xs : List Str) : srt (srt xs) = srt xs := sorted_unique (srt_perm _) (srt_sorted _) (srt_sorted _)
end Kr
/-! layer KrX -/
namespace Kr
open PySem L2
/-! ## the law's own call -/
def spLaw (K : PySem.W.Frag) : Sp := fun vs H Q _ => ∃ (a : Addr) (ns : List Int), vs = [.ref a] ∧ SqL K H a (ns.map V.int) ∧ ns.length ≤ 63 ∧ ∀ H', Q (.bl true) H'
end Kr
/-! layer KrY -/
/-! layer KrZ -/
namespace Kr
open PySem L2
theorem perm_ints {xs ys : List Int} (h1 : xs.Nodup) (h2 : ys.Nodup) (h : ∀ x, x ∈ xs ↔ x ∈ ys) : xs.Perm ys := by
  rw [List.perm_iff_count]
  intro a
  by_cases ha : a ∈ xs
  · rw [List.nodup_iff_count] at h1 h2
    have p1 : 0 < xs.count a := List.count_pos_iff.mpr ha
    have p2 : 0 < ys.count a := List.count_pos_iff.mpr ((h a).mp ha)
    have := h1 a
    have := h2 a
    omega
  · rw [List.count_eq_zero.mpr ha, List.count_eq_zero.mpr fun hb => ha ((h a).mpr hb)]
theorem IsOpen.unique {h : House} {a b : List Int} (x : IsOpen h a) (y : IsOpen h b) : a = b := ints_unique (perm_ints x.2.1 y.2.1 fun i => (x.2.2 i).trans (y.2.2 i).symm) x.1 y.1
end Kr
/-! layer KrB -/
/-! layer KrC -/
namespace Kr
open PySem L2
structure Mid (h : House) : Prop where
  good : GoodHouse h
  b : h.1.length ≤ 200
  r : h.2.length ≤ 100
  k : keysIn h.2 ≤ 200
theorem Mid.small {h : House} (m : Mid h) : Small h := ⟨m.good, by have := m.b; omega, by have := m.r; omega, by have := m.k; omega⟩
theorem Mid.each {h : House} (m : Mid h) {r : Room'} (hr : r ∈ h.2) : r.2.length ≤ 200 := Nat.le_trans (one_le hr) m.k
theorem Mid.begin' {h : House} (m : Mid h) : Small (h.1, []) := by
  have h1 := m.b
  exact ⟨⟨m.good.keys, (fun _ h => nomatch h), by show h.1.length ≤ _; omega, Nat.zero_le _, (fun _ h => nomatch h)⟩, by show h.1.length ≤ _; omega, Nat.zero_le _, Nat.zero_le _⟩
theorem Mid.more {h : House} (m : Mid h) {r : Room'} (hr : r ∈ h.2) : Small (h.1 ++ r.1.take 1, h.2) := by
  have h1 := m.b; have h2 := m.r; have h3 := m.k
  have len : (h.1 ++ r.1.take 1).length ≤ 300 := by rw [List.length_append, List.length_take]; omega
  refine ⟨⟨fun k hk => ?_, m.good.rooms, by show (h.1 ++ r.1.take 1).length ≤ _; omega, m.good.many, m.good.each⟩, by show (h.1 ++ r.1.take 1).length ≤ _; omega, by show h.2.length ≤ _; omega, by show keysIn h.2 ≤ _; omega⟩
  rcases List.mem_append.mp hk with h | h
  · exact m.good.keys k h
  · exact (m.good.rooms r hr).1 k (List.mem_of_mem_take h)
theorem Mid.locks {h : House} (m : Mid h) {r : Room'} (hr : r ∈ h.2) : r.1.length ≤ 4000 := by
  have := (m.good.rooms r hr).2.2.2.1
  omega
end Kr
/-! layer KrD -/
namespace Kr
open PySem L2
/-! ## dicts whose keys are texts or ints -/
theorem VE.f {X : Cx} {e : Expr} {σ : St} {F F1 : Hp} {v : V} (h : VE X e σ F F v) (s : Same F F1) : VE X e σ F1 F1 v := h.mono ⟨s, Same.refl _, s, fun _ e n => absurd e n⟩
section
variable {X : Cx} {σ : St} {F H : Hp} {o e f value : Expr} {a : Addr} {kvs : List (Key × V)} {k : Key} {pos pos' apos cpos tpos : Pos} {D : Ends} {d dv : PyData} {i j n : Int}
/-- a key as data -/
def keyD : Key → PyData
  | .inl i => .int i
  | .inr x => .str x
end
/-! ## hands: how many keys of each kind -/
structure HandOf (kvs : List (Key × V)) (ks : List Str) (cnt : Str → Nat) : Prop where
  keys : kvs.map (·.1) = ks.map Sum.inr
  nd : ks.Nodup
  val : ∀ x, valV kvs (.inr x) = if x ∈ ks then some (.int (cnt x)) else none
  zero : ∀ x, x ∉ ks → cnt x = 0
theorem HandOf.nil : HandOf [] [] fun _ => 0 := ⟨rfl, List.nodup_nil, fun _ => rfl, fun _ _ => rfl⟩
theorem HandOf.get {kvs : List (Key × V)} {ks : List Str} {cnt : Str → Nat} (h : HandOf kvs ks cnt) (x : Str) : (valV kvs (.inr x)).getD (.int 0) = .int (cnt x : Int) := by
  rw [h.val x]
  split
  · rfl
  · rename_i hn
    rw [h.zero x hn]
    rfl
theorem HandOf.len {kvs : List (Key × V)} {ks : List Str} {cnt : Str → Nat} (h : HandOf kvs ks cnt) : kvs.length = ks.length := by
  have := congrArg List.length h.keys
  rwa [List.length_map, List.length_map] at this
theorem valV_none_of {kvs : List (Key × V)} {ks : List Str} {cnt : Str → Nat} (h : HandOf kvs ks cnt) {x : Str} (hx : x ∉ ks) : valV kvs (.inr x) = none := by
  rw [h.val x, if_neg hx]
theorem putK_keys {kvs : List (Key × V)} {k : Key} {v : V} (h : (valV kvs k).isSome = true) : (putK kvs k v).map (·.1) = kvs.map (·.1) := by
  unfold putK
  rw [valV_any, h, if_pos rfl, List.map_map]
  refine List.map_congr_left fun kv _ => ?_
  show (if kv.1 = k then (kv.1, v) else kv).1 = kv.1
  split <;> rfl
/-- one kind's number is set -/
theorem HandOf.put {kvs : List (Key × V)} {ks : List Str} {cnt : Str → Nat} (h : HandOf kvs ks cnt) (x : Str) (n : Nat) : HandOf (putK kvs (.inr x) (.int (n : Int))) (if x ∈ ks then ks else ks ++ [x]) (fun y => if y = x then n else cnt y) := by
  refine ⟨?_, ?_, fun y => ?_, fun y hy => ?_⟩
  · split
    · rename_i hx
      rw [putK_keys (by rw [h.val x, if_pos hx]; rfl)]
      exact h.keys
    · rename_i hx
      rw [putK_new _ (valV_none_of h hx), List.map_append, h.keys, List.map_append]
      rfl
  · split
    · exact h.nd
    · rename_i hx
      exact List.nodup_append.mpr ⟨h.nd, List.nodup_cons.mpr ⟨(fun h => nomatch h), List.nodup_nil⟩, fun a ha b hb e => by
        rw [List.mem_singleton] at hb
        subst hb; subst e
        exact hx ha⟩
  · rw [valV_put]
    by_cases e : y = x
    · subst e
      rw [if_pos rfl, if_pos (by split <;> simp_all), if_pos rfl]
    · rw [if_neg (fun z => e (Sum.inr.inj z)), h.val y, if_neg e]
      have : (y ∈ (if x ∈ ks then ks else ks ++ [x])) ↔ y ∈ ks := by
        split
        · exact Iff.rfl
        · rw [List.mem_append, List.mem_singleton]
          exact ⟨fun z => z.resolve_right e, .inl⟩
      simp only [this]
  · have hyx : y ≠ x := fun e => by
      subst e
      apply hy
      split <;> simp_all
    rw [if_neg hyx]
    refine h.zero y fun z => hy ?_
    split
    · exact z
    · exact List.mem_append_left _ z
end Kr
/-! layer KrE -/
namespace Kr
open PySem L2 PySem.Spec
/-! ## count and remove in lists of texts -/
def isTx (x : Str) : Value → Bool
  | .str y _ => y.cps.toList == x.cps.toList
  | _ => false
theorem isTx_str (y x : Str) (t : Tok) : isTx x (.str y t) = (y == x) := by
  show (y.cps.toList == x.cps.toList) = (y == x)
  by_cases e : y = x
  · subst e; simp
  · have : y.cps.toList ≠ x.cps.toList := fun z => e (by
      obtain ⟨a⟩ := y
      obtain ⟨b⟩ := x
      congr 1
      exact Array.toList_inj.mp z)
    rw [beq_eq_false_iff_ne.mpr this, beq_eq_false_iff_ne.mpr e]
theorem isTx_gives {x : Str} {t : Tok} : ∀ {us : List Value} {xs : List Str}, Vals (xs.map V.str) us → ∀ y ∈ us, MeetsSeq.EqGives y (.str x t) (isTx x y)
  | [], _, _, y, hy => nomatch hy
  | u :: us, [], h, _, _ => nomatch h
  | u :: us, z :: xs, h, y, hy => by
    cases h with
    | cons h1 h2 =>
      obtain ⟨t', rfl⟩ := h1
      rcases List.mem_cons.mp hy with e | e
      · subst e
        exact PySem.SeqRoads2.EqGives.str z x t' t
      · exact isTx_gives h2 y e
theorem isTx_count {x : Str} : ∀ {us : List Value} {xs : List Str}, Vals (xs.map V.str) us → us.countP (isTx x) = xs.count x
  | [], [], _ => rfl
  | [], z :: xs, h => nomatch h
  | u :: us, [], h => nomatch h
  | u :: us, z :: xs, h => by
    cases h with
    | cons h1 h2 =>
      obtain ⟨t', rfl⟩ := h1
      rw [List.countP_cons, List.count_cons, isTx_count h2, isTx_str]
section
variable {X : Cx}
def rCntS (K : PySem.W.Frag) : V → List V → Hp → VK → Prop := fun v vs H Q => ∃ (p : Addr) (xs : List Str) (x : Str), v = .ref p ∧ vs = [.str x] ∧ SqL K H p (xs.map V.str) ∧ Q (.int (xs.count x : Nat)) H
theorem mt_countS : MtR X "list.count" (rCntS X.K) := by
  intro pins s σ H v vs a us Q I ra rs h
  obtain ⟨p, xs, x, rfl, rfl, hs, q⟩ := h
  cases ra
  obtain ⟨u, rfl, t, rfl⟩ := rs.one
  obtain ⟨its, rv, ⟨⟨cls, dd, data, sl⟩, n, ho, hc, hdn, hd⟩, hlen⟩ := I.list hs
  simp only at hc hd
  subst hc hd
  have ec : its.toArray.toList.countP (isTx x) = xs.count x := isTx_count rv
  refine call_meets PySem.F.slot_list_count ⟨_, ho, rfl⟩ PySem.F.entry_list_count (PySem.F.args_list_count_2 _ _)
    (SeqAt.list_countAt p its.toArray n dd sl (.str x t) (isTx x)) ⟨ho, fun y hy => (isTx_gives rv y (by simpa using hy)).at _ _, .int (xs.count x : Nat), H, I.tok _, ⟨s.toks, ?_⟩, q⟩
  rw [ec]
/-- the first of its kind is taken out -/
def rRemS : V → List V → Hp → VK → Prop := fun v vs H Q => ∃ (l : Addr) (xs : List Str) (x : Str), v = .ref l ∧ vs = [.str x] ∧ H l = some (.lst (xs.map V.str)) ∧ x ∈ xs ∧ Q .non (upd H l (.lst ((xs.erase x).map V.str)))
theorem first_at {x : Str} : ∀ {xs : List Str}, x ∈ xs → ∃ j : Nat, xs[j]? = some x ∧ (∀ m : Nat, m < j → xs[m]? ≠ some x) ∧ xs.erase x = xs.eraseIdx j
  | z :: xs, h => by
    by_cases e : z = x
    · subst e
      exact ⟨0, rfl, fun m hm => absurd hm (Nat.not_lt_zero _), by simp⟩
    · obtain ⟨j, h1, h2, h3⟩ := first_at (xs := xs) ((List.mem_cons.mp h).resolve_left fun z' => e z'.symm)
      refine ⟨j + 1, by simpa using h1, fun m hm => ?_, ?_⟩
      · cases m with
        | zero => intro hh; exact e (by simpa using hh)
        | succ m => intro hh; exact h2 m (by omega) (by simpa using hh)
      · rw [List.erase_cons_tail (by simpa using e), h3]; rfl
theorem erase_mapS {α β : Type} (f : α → β) : ∀ (xs : List α) (j : Nat), (xs.map f).eraseIdx j = (xs.eraseIdx j).map f
  | [], _ => rfl
  | _ :: _, 0 => rfl
  | x :: xs, j + 1 => by
    show f x :: (xs.map f).eraseIdx j = f x :: (xs.eraseIdx j).map f
    rw [erase_mapS f xs j]
theorem mt_removeS : MtM X "list.remove" rRemS := by
  intro pins s σ H v vs a us Q I ra rs h
  obtain ⟨l, xs, x, rfl, rfl, hH, hx, q⟩ := h
  cases ra
  obtain ⟨u, rfl, t, rfl⟩ := rs.one
  obtain ⟨z, its, n, r, hl, e⟩ := I.lstM hH
  obtain ⟨j, hj, hno, he⟩ := first_at hx
  have hlen : its.length = xs.length := by rw [← hl, List.length_map]
  have hjn : j < xs.length := (List.getElem?_eq_some_iff.mp hj).1
  have itm : ∀ m (hm : m < its.length) y, xs[m]? = some y → ∃ t', its[m] = .str y t' := fun m hm y hy => by
    obtain ⟨u, hu, t', rfl⟩ := r.get (x := V.str y) (i := m) (by rw [List.getElem?_map, hy]; rfl)
    exact ⟨t', by rw [List.getElem?_eq_getElem hm] at hu; exact Option.some.inj hu⟩
  refine call_meets PySem.F.slot_list_remove ⟨_, e, rfl⟩ PySem.F.entry_list_remove (PySem.F.args_list_remove_2 _ _)
    (MeetsSeq.list_remove l its.toArray n (.str x t) (isTx x) (fun y hy => isTx_gives r y (by simpa using hy)) j (by rw [List.size_toArray]; omega) ?_ ?_ (by rw [List.size_toArray]; omega)) ⟨e, ?_⟩
  · obtain ⟨t', h1⟩ := itm j (by omega) x hj
    have hjs : j < its.toArray.size := by rw [List.size_toArray]; omega
    have h2 : its.toArray[j] = .str x t' := by simpa using h1
    rw [h2, isTx_str]
    exact beq_self_eq_true x
  · intro m hm hmj
    have hmx : m < xs.length := by omega
    obtain ⟨t', h1⟩ := itm m (by omega) _ (List.getElem?_eq_getElem hmx)
    have h2 : its.toArray[m] = .str xs[m] t' := by simpa using h1
    rw [h2, isTx_str]
    exact beq_eq_false_iff_ne.mpr fun z => hno m hmj (by rw [List.getElem?_eq_getElem hmx, z])
  · have rr := r.eraseIdx j
    have em : (xs.map V.str).eraseIdx j = (xs.erase x).map V.str := by rw [he, erase_mapS]
    rw [em] at rr
    refine ⟨.non, _, I.lset (its' := its.eraseIdx j) (t' := s.toks) hH e ?_ rr ?_, rfl, q⟩
    · show its.toArray.eraseIdxIfInBounds j = (its.eraseIdx j).toArray
      rw [List.eraseIdxIfInBounds_toArray]
    · have := List.length_erase_le (a := x) (l := xs)
      rw [List.length_map] at hl z ⊢
      omega
end
end Kr
/-! layer KrF -/
/-! layer KrG -/
namespace Kr
open PySem L2
/-! ## a hand that counts a list -/
/-- the keys in hand behind a room -/
def behindL (L : List Str) (r : Room') : List Str := r.1.foldl List.erase L ++ r.2
def stepL (h : House) (L : List Str) (i : Nat) : List Str := match h.2[i]? with | some r => behindL L r | none => L
def walkL (h : House) (order : List Nat) : List Str := order.foldl (stepL h) h.1
end Kr
/-! layer KrH -/
namespace Kr
open PySem L2
/-! ## orders gone -/
theorem count_foldl_erase (x : Str) : ∀ (ls L : List Str), (ls.foldl List.erase L).count x = L.count x - ls.count x
  | [], L => by simp
  | l :: ls, L => by
    rw [List.foldl_cons, count_foldl_erase x ls, List.count_cons]
    by_cases e : l = x
    · subst e
      rw [List.count_erase_self]
      simp
      omega
    · have e' : x ≠ l := fun z => e z.symm
      rw [List.count_erase_of_ne e']
      simp [e]
theorem may_mem {L lo : List Str} {j : Nat} {x : Str} (hm : (lo.all fun k => decide (lo.count k ≤ L.count k)) = true) (hj : lo[j]? = some x) : x ∈ (lo.take j).foldl List.erase L := by
  rw [← List.count_pos_iff, count_foldl_erase]
  have h1 : lo.count x ≤ L.count x := of_decide_eq_true (List.all_eq_true.mp hm x (List.mem_of_getElem? hj))
  have h2 : lo.count x = (lo.take j).count x + (lo.drop j).count x := by rw [← List.count_append, List.take_append_drop]
  have h3 : 0 < (lo.drop j).count x := by
    rw [List.count_pos_iff]
    exact List.mem_of_getElem? (i := 0) (by rw [List.getElem?_drop]; simpa using hj)
  omega
theorem foldl_erase_snoc {L lo : List Str} {j : Nat} {x : Str} (hj : lo[j]? = some x) : (lo.take (j + 1)).foldl List.erase L = ((lo.take j).foldl List.erase L).erase x := by
  rw [List.take_add_one, hj, List.foldl_append]
  rfl
theorem walkL_snoc {h : House} {order : List Nat} {i k : Nat} {r : Room'} (hi : order[i]? = some k) (hr : h.2[k]? = some r) : walkL h (order.take (i + 1)) = behindL (walkL h (order.take i)) r := by
  unfold walkL
  rw [List.take_add_one, hi, List.foldl_append]
  show stepL h _ k = _
  unfold stepL
  rw [hr]
/-- an order that can be gone -/
structure CanGo (h : House) (order : List Nat) : Prop where
  nd : order.Nodup
  step : ∀ i k, order[i]? = some k → ∃ r : Room', h.2[k]? = some r ∧ (r.1.all fun l => decide (r.1.count l ≤ (walkL h (order.take i)).count l)) = true
end Kr
/-! layer KrI -/
/-! layer A1 -/
namespace Kr
open PySem L2
/-! ## trees of our own: each node at its address -/
inductive Kd where
  | lst
  | tup
  | dct (ks : List Key)
  | dctT (ks : List (List Key))
  | obj (C dx : Addr) (fs : List Str)
inductive Tr where
  | d (x : PyData)
  | nd (k : Kd) (a : Addr) (xs : List Tr)
def Kd.ho : Kd → List V → HO
  | .lst, vs => .lst vs
  | .tup, vs => .tup vs
  | .dct ks, vs => .dK (ks.zip vs)
  | .dctT ks, vs => .dT (ks.zip vs)
  | .obj C dx fs, vs => .ins C dx (fs.zip vs)
def Kd.more : Kd → List Addr
  | .obj _ dx _ => [dx]
  | _ => []
def Kd.side (H : Hp) (a : Addr) (n : Nat) : Kd → Prop
  | .obj _ dx fs => H dx = some (.own a) ∧ fs.length = n
  | .dct ks => ks.length = n
  | .dctT ks => ks.length = n
  | _ => True
def Tr.root : Tr → Option Addr
  | .d _ => none
  | .nd _ a _ => some a
mutual
def Tr.addrs : Tr → List Addr
  | .d _ => []
  | .nd k a xs => a :: (k.more ++ Tr.addrsL xs)
def Tr.addrsL : List Tr → List Addr
  | [] => []
  | t :: ts => t.addrs ++ Tr.addrsL ts
end
mutual
def TrOk (F H : Hp) : Tr → V → Prop
  | .d x, v => Da F x v
  | .nd k a xs, v => v = .ref a ∧ ∃ vs, H a = some (k.ho vs) ∧ k.side H a xs.length ∧ TrAll F H xs vs
def TrAll (F H : Hp) : List Tr → List V → Prop
  | [], vs => vs = []
  | t :: ts, vs => ∃ v r, vs = v :: r ∧ TrOk F H t v ∧ TrAll F H ts r
end
theorem Kd.side_mono {F H : Hp} {k : Kd} {a : Addr} {n : Nat} {H2 : Hp} (h : k.side H a n) (e : ∀ q ∈ k.more, ∀ o, H q = some o → H2 q = some o) : k.side H2 a n := by
  cases k with
  | obj C dx fs => exact ⟨e dx (List.mem_singleton.mpr rfl) _ h.1, h.2⟩
  | _ => exact h
mutual
theorem TrOk.mono {F H F2 H2 : Hp} (s : Same F F2) : ∀ {t : Tr} {v : V}, TrOk F H t v → (∀ q ∈ t.addrs, ∀ o, H q = some o → H2 q = some o) → TrOk F2 H2 t v
  | .d x, v, h, _ => Da.mono s h
  | .nd k a xs, v, h, e => by
    obtain ⟨h0, vs, h1, h2, h3⟩ := (show v = .ref a ∧ ∃ vs, H a = some (k.ho vs) ∧ k.side H a xs.length ∧ TrAll F H xs vs from h)
    have e' : ∀ q ∈ a :: (k.more ++ Tr.addrsL xs), ∀ o, H q = some o → H2 q = some o := e
    exact (show v = .ref a ∧ ∃ vs, H2 a = some (k.ho vs) ∧ k.side H2 a xs.length ∧ TrAll F2 H2 xs vs from ⟨h0, vs, e' a (List.mem_cons_self ..) _ h1, Kd.side_mono (F := F) h2 fun q hq => e' q (List.mem_cons_of_mem _ (List.mem_append_left _ hq)), TrAll.mono s h3 fun q hq => e' q (List.mem_cons_of_mem _ (List.mem_append_right _ hq))⟩)
theorem TrAll.mono {F H F2 H2 : Hp} (s : Same F F2) : ∀ {ts : List Tr} {vs : List V}, TrAll F H ts vs → (∀ q ∈ Tr.addrsL ts, ∀ o, H q = some o → H2 q = some o) → TrAll F2 H2 ts vs
  | [], _, h, _ => h
  | t :: ts, vs, h, e => by
    obtain ⟨v, r, h0, h1, h2⟩ := (show ∃ v r, vs = v :: r ∧ TrOk F H t v ∧ TrAll F H ts r from h)
    have e' : ∀ q ∈ t.addrs ++ Tr.addrsL ts, ∀ o, H q = some o → H2 q = some o := e
    exact (show ∃ v r, vs = v :: r ∧ TrOk F2 H2 t v ∧ TrAll F2 H2 ts r from ⟨v, r, h0, h1.mono s fun q hq => e' q (List.mem_append_left _ hq), TrAll.mono s h2 fun q hq => e' q (List.mem_append_right _ hq)⟩)
end
/-! ## abstract values, cells, states -/
inductive AVal where
  | d (x : PyData)
  | r (n : Nat)
  | s (K : PySem.W.Frag) (ns : List Int)
  /-- the node at p of the tree n, at a path there -/
  | a (p : Addr) (n : Nat) (pt : List Nat)
inductive Cell where
  | lst (ds : List PyData)
  | dK (kvs : List (Key × PyData))
  | pool (n : Nat)
  | fz (x : PyData)
  | gone
  | nl (xs : List AVal)
  | nt (xs : List AVal)
  | nd (kvs : List (Key × AVal))
  | dl (od : Obj) (es : List (Key × V)) (kvs : List (Key × PyData))
  | tr (t : Tr)
def Cell.live : Cell → Bool
  | .fz _ => false
  | .gone => false
  | .tr _ => false
  | _ => true
def Cell.ads : Cell → List Addr
  | .tr t => t.addrs
  | _ => []
structure AS where
  sl : List (Option AVal)
  cs : List Cell
def VOk (ad : List Addr) (F : Hp) : AVal → V → Prop
  | .d x, v => Da F x v
  | .r n, v => ∃ a, ad[n]? = some a ∧ v = .ref a
  | .s K ns, v => ∃ a, v = .ref a ∧ SqL K F a (ns.map V.int)
  | .a p _ _, v => v = .ref p
def KvOk (F : Hp) : List (Key × PyData) → List (Key × V) → Prop := Paired fun p q => p.1 = q.1 ∧ Da F p.2 q.2
def KrOk (ad : List Addr) (F : Hp) : List (Key × AVal) → List (Key × V) → Prop := Paired fun p q => p.1 = q.1 ∧ VOk ad F p.2 q.2
def COk (ad : List Addr) (F H : Hp) (a : Addr) : Cell → Prop
  | .lst ds => ∃ vs, H a = some (.lst vs) ∧ DaAll F ds vs
  | .dK kvs => ∃ es, H a = some (.dK es) ∧ KvOk F kvs es
  | .pool n => Pool H a n
  | .fz x => Da F x (.ref a)
  | .gone => True
  | .nl xs => ∃ vs, H a = some (.lst vs) ∧ Paired (VOk ad F) xs vs
  | .nt xs => ∃ vs, H a = some (.tup vs) ∧ Paired (VOk ad F) xs vs
  | .nd kvs => ∃ es, H a = some (.dK es) ∧ KrOk ad F kvs es
  | .dl od es kvs => H a = some (.frz od (.dK es)) ∧ KvOk F kvs es
  | .tr t => t.root = some a ∧ TrOk F H t (.ref a)
/-- where a def began: the cells handed in, both heaps -/
structure Bs where
  S : List Addr
  F0 : Hp
  H0 : Hp
  T : List Addr
/-- the addresses of our trees stand apart -/
structure Inn (B : Bs) (ad : List Addr) (F H : Hp) (cs : List Cell) : Prop where
  nd : (cs.flatMap Cell.ads).Nodup
  off : ∀ q ∈ cs.flatMap Cell.ads, ∀ i : Nat, ad[i]? = some q → cs[i]? = some Cell.gone ∨ ∃ t : Tr, cs[i]? = some (Cell.tr t) ∧ t.root = some q
  fr : ∀ q ∈ cs.flatMap Cell.ads, F q = none ∧ H q ≠ none
  own : ∀ q ∈ cs.flatMap Cell.ads, q ∈ B.S ∨ q ∈ B.T ∨ B.H0 q = none
  old : ∀ b ∈ B.T, B.H0 b ≠ none
structure Rl (B : Bs) (ad : List Addr) (F H : Hp) (a : AS) (σ : St) : Prop where
  ff : Same B.F0 F
  fh : Same F H
  hh : ∀ b o, b ∉ B.S → b ∉ B.T → B.H0 b = some o → H b = some o
  al : ∀ b, b ∈ B.S ∨ b ∈ B.T → H b ≠ none
  new : ∀ b, B.F0 b = none → B.H0 b ≠ none → F b = none
  pre : ∃ ad', ad = B.S ++ ad' ∧ ∀ b ∈ ad', B.H0 b = none
  nd : ad.Nodup
  len : ad.length = a.cs.length
  cel : ∀ (i : Nat) (p : Addr) (c : Cell), ad[i]? = some p → a.cs[i]? = some c → H p ≠ none ∧ (c.live = true → F p = none) ∧ COk ad F H p c
  sln : a.sl.length = σ.length
  slt : ∀ (k : Nat) (x : AVal), a.sl[k]? = some (some x) → ∃ v, σ[k]? = some (some v) ∧ VOk ad F x v
  inn : Inn B ad F H a.cs
theorem ne_none {H : Hp} {p : Addr} {o : HO} (h : H p = some o) : H p ≠ none := by rw [h]; exact fun z => nomatch z
theorem some_of_ne {H : Hp} {p : Addr} (h : H p ≠ none) : ∃ o, H p = some o := by
  cases e : H p with
  | none => exact absurd e h
  | some o => exact ⟨o, rfl⟩
theorem Same.ne {H H2 : Hp} {p : Addr} (s : Same H H2) (h : H p ≠ none) : H2 p ≠ none := fun z => h (s.free z)
theorem Paired.imp {α β : Type} {R S : α → β → Prop} : ∀ {xs : List α} {ys : List β}, Paired R xs ys → (∀ x y, R x y → S x y) → Paired S xs ys
  | _, _, .nil, _ => .nil
  | _, _, .cons h t, k => .cons (k _ _ h) (Paired.imp t k)
theorem ext_get {ad ad2 : List Addr} (e : ∃ m, ad2 = ad ++ m) {n : Nat} {a : Addr} (h : ad[n]? = some a) : ad2[n]? = some a := by
  obtain ⟨m, rfl⟩ := e
  rw [List.getElem?_append_left (List.getElem?_eq_some_iff.mp h).1]
  exact h
abbrev Ext (ad ad2 : List Addr) : Prop := ∃ m, ad2 = ad ++ m
theorem Ext.refl (ad : List Addr) : Ext ad ad := ⟨[], by simp⟩
theorem Ext.trans {a b c : List Addr} (h : Ext a b) (k : Ext b c) : Ext a c := by
  obtain ⟨m, rfl⟩ := h
  obtain ⟨n, rfl⟩ := k
  exact ⟨m ++ n, by simp⟩
theorem VOk.mono {ad ad2 : List Addr} {F F2 : Hp} {x : AVal} {v : V} (h : VOk ad F x v) (e : Ext ad ad2) (s : Same F F2) : VOk ad2 F2 x v := by
  cases x with
  | d x => exact Da.mono s h
  | r n => obtain ⟨a, h1, h2⟩ := h; exact ⟨a, ext_get e h1, h2⟩
  | s K ns => obtain ⟨a, h1, h2⟩ := h; exact ⟨a, h1, s.seq h2⟩
  | a p n pt => exact h
theorem COk.mono {ad ad2 : List Addr} {F F2 H H2 : Hp} {p : Addr} {c : Cell} (h : COk ad F H p c) (e : Ext ad ad2) (s : Same F F2) (k : ∀ o, H p = some o → H2 p = some o) (kt : ∀ q ∈ c.ads, ∀ o, H q = some o → H2 q = some o := by exact fun _ h => nomatch h) : COk ad2 F2 H2 p c := by
  cases c with
  | lst ds => obtain ⟨vs, h1, h2⟩ := h; exact ⟨vs, k _ h1, h2.mono s⟩
  | dK kvs => obtain ⟨vs, h1, h2⟩ := h; exact ⟨vs, k _ h1, Paired.imp h2 fun _ _ h => ⟨h.1, h.2.mono s⟩⟩
  | pool n => obtain ⟨c, m, t, h1, h2⟩ := h; exact ⟨c, m, t, k _ h1, h2⟩
  | fz x => exact Da.mono s h
  | gone => trivial
  | nl xs => obtain ⟨vs, h1, h2⟩ := h; exact ⟨vs, k _ h1, Paired.imp h2 fun _ _ h => h.mono e s⟩
  | nt xs => obtain ⟨vs, h1, h2⟩ := h; exact ⟨vs, k _ h1, Paired.imp h2 fun _ _ h => h.mono e s⟩
  | nd kvs => obtain ⟨vs, h1, h2⟩ := h; exact ⟨vs, k _ h1, Paired.imp h2 fun _ _ h => ⟨h.1, h.2.mono e s⟩⟩
  | dl od es kvs => obtain ⟨h1, h2⟩ := h; exact ⟨k _ h1, Paired.imp h2 fun _ _ h => ⟨h.1, h.2.mono s⟩⟩
  | tr t => obtain ⟨h1, h2⟩ := h; exact ⟨h1, h2.mono s kt⟩
theorem mem_ads {cs : List Cell} {i : Nat} {c : Cell} {q : Addr} (hc : cs[i]? = some c) (hq : q ∈ c.ads) : q ∈ cs.flatMap Cell.ads := List.mem_flatMap.mpr ⟨c, List.mem_of_getElem? hc, hq⟩
section
variable {B : Bs} {ad : List Addr} {F H F2 H2 : Hp} {a : AS} {σ : St} {p : Addr} {o : HO} {c : Cell} {i k : Nat} {x : AVal} {v : V}
theorem Rl.there {b : Addr} (r : Rl B ad F H a σ) (n : B.H0 b ≠ none) : H b ≠ none := by
  by_cases hb : b ∈ B.S ∨ b ∈ B.T
  · exact r.al b hb
  · obtain ⟨o, ho⟩ := some_of_ne n
    exact ne_none (r.hh b o (fun z => hb (.inl z)) (fun z => hb (.inr z)) ho)
theorem Inn.gr {cs : List Cell} (q : Inn B ad F H cs) (g : Gr F H F2 H2) : Inn B ad F2 H2 cs :=
  ⟨q.nd, q.off, fun x hx => ⟨g.new x (q.fr x hx).1 (q.fr x hx).2, Same.ne g.hh (q.fr x hx).2⟩, q.own, q.old⟩
theorem Rl.gr (r : Rl B ad F H a σ) (g : Gr F H F2 H2) : Rl B ad F2 H2 a σ where
  ff := r.ff.trans g.ff
  fh := g.fh
  hh := fun b o hb ht e => g.hh _ _ (r.hh b o hb ht e)
  al := fun b hb => Same.ne g.hh (r.al b hb)
  new := fun b e n => g.new b (r.new b e n) (r.there n)
  pre := r.pre
  nd := r.nd
  len := r.len
  cel := fun i p c h1 h2 => by
    obtain ⟨n, l, ok⟩ := r.cel i p c h1 h2
    exact ⟨Same.ne g.hh n, fun q => g.new p (l q) n, ok.mono (Ext.refl _) g.ff (fun o e => g.hh _ _ e) fun q _ o e => g.hh _ _ e⟩
  sln := r.sln
  slt := fun k x h => by
    obtain ⟨v, h1, h2⟩ := r.slt k x h
    exact ⟨v, h1, h2.mono (Ext.refl _) g.ff⟩
  inn := r.inn.gr g
theorem Rl.mem (r : Rl B ad F H a σ) (h : p ∈ ad) : H p ≠ none := by
  obtain ⟨i, hi⟩ := List.mem_iff_getElem?.mp h
  have : i < a.cs.length := by rw [← r.len]; exact (List.getElem?_eq_some_iff.mp hi).1
  exact (r.cel i p _ hi (List.getElem?_eq_getElem this)).1
theorem Rl.fresh (r : Rl B ad F H a σ) (h : H p = none) : B.H0 p = none ∧ p ∉ B.S ∧ p ∉ ad := by
  have h1 : p ∉ B.S := fun z => r.al p (.inl z) h
  have h2 : p ∉ B.T := fun z => r.al p (.inr z) h
  refine ⟨?_, h1, fun z => r.mem z h⟩
  cases e : B.H0 p with
  | none => rfl
  | some o => rw [r.hh p o h1 h2 e] at h; cases h
theorem Rl.offT (r : Rl B ad F H a σ) (h : H p = none) : p ∉ B.T := fun z => r.al p (.inr z) h
theorem Rl.offI {q : Addr} (r : Rl B ad F H a σ) (h : H p = none) (hq : q ∈ a.cs.flatMap Cell.ads) : q ≠ p := fun z => (r.inn.fr q hq).2 (z ▸ h)
theorem flat_snoc {cs : List Cell} {c : Cell} (h : c.ads = []) : (cs ++ [c]).flatMap Cell.ads = cs.flatMap Cell.ads := by simp [h]
theorem Inn.push {cs : List Cell} (r : Inn B ad F H cs) (hp : H p = none) (hl : ad.length = cs.length) (hc : c.ads = []) : Inn B (ad ++ [p]) F (upd H p o) (cs ++ [c]) := by
  refine ⟨by rw [flat_snoc hc]; exact r.nd, fun q hq i hi => ?_, fun q hq => ?_, fun q hq => r.own q (by rw [flat_snoc hc] at hq; exact hq), r.old⟩
  · rw [flat_snoc hc] at hq
    have hqp : q ≠ p := fun z => (r.fr q hq).2 (z ▸ hp)
    by_cases hi2 : i < ad.length
    · rw [List.getElem?_append_left hi2] at hi
      rw [List.getElem?_append_left (by omega)]
      exact r.off q hq i hi
    · rw [List.getElem?_append_right (by omega)] at hi
      have : q = p := by
        have := List.mem_of_getElem? hi
        simpa using this
      exact absurd this hqp
  · rw [flat_snoc hc] at hq
    have hqp : q ≠ p := fun z => (r.fr q hq).2 (z ▸ hp)
    exact ⟨(r.fr q hq).1, by rw [upd_ne hqp]; exact (r.fr q hq).2⟩
theorem flat_set {cs : List Cell} {i : Nat} {c : Cell} (h : c.ads = []) : ((cs.set i c).flatMap Cell.ads).Sublist (cs.flatMap Cell.ads) := by
  induction cs generalizing i with
  | nil => simp
  | cons d cs ih =>
    cases i with
    | zero => simp [h]
    | succ i => simp only [List.set_cons_succ, List.flatMap_cons]; exact List.Sublist.append (List.Sublist.refl _) ih
theorem Inn.set {cs : List Cell} {H2 : Hp} {c0 : Cell} (r : Inn B ad F H cs) (hi : ad[i]? = some p) (h0 : cs[i]? = some c0) (hl : c0.live = true) (hc : c.ads = []) (hF : ∀ q, q ≠ p → F q = none → F2 q = none) (hH : ∀ q, q ≠ p → H q ≠ none → H2 q ≠ none) : Inn B ad F2 H2 (cs.set i c) := by
  have sub : ∀ q, q ∈ (cs.set i c).flatMap Cell.ads → q ∈ cs.flatMap Cell.ads := fun q hq => (flat_set hc).subset hq
  have ne : ∀ q, q ∈ (cs.set i c).flatMap Cell.ads → q ≠ p := fun q hq z => by
    subst z
    rcases r.off q (sub q hq) i hi with e | ⟨t, e, _⟩
    · rw [h0] at e; cases e; cases hl
    · rw [h0] at e; cases e; cases hl
  refine ⟨r.nd.sublist (flat_set hc), fun q hq j hj => ?_, fun q hq => ⟨hF q (ne q hq) (r.fr q (sub q hq)).1, hH q (ne q hq) (r.fr q (sub q hq)).2⟩, fun q hq => r.own q (sub q hq), r.old⟩
  have hji : j ≠ i := fun z => by
    subst z
    rw [hi] at hj
    exact ne q hq (Option.some.inj hj).symm
  rw [List.getElem?_set_ne (fun z => hji z.symm)]
  exact r.off q (sub q hq) j hj
theorem live_ads {c : Cell} (h : c.live = true) : c.ads = [] := by
  cases c with
  | tr t => cases h
  | _ => rfl
theorem Rl.push (r : Rl B ad F H a σ) (h : H p = none) (hc : COk (ad ++ [p]) F (upd H p o) p c) (hcl : c.live = true := by first | assumption | rfl) : Rl B (ad ++ [p]) F (upd H p o) ⟨a.sl, a.cs ++ [c]⟩ σ := by
  obtain ⟨f1, f2, f3⟩ := r.fresh h
  have up : ∀ b, b ≠ p → upd H p o b = H b := fun b hb => upd_ne hb
  refine ⟨r.ff, same_mut r.fh (r.fh.free h), fun b u hb ht e => ?_, fun b hb => ?_, r.new, ?_, ?_, by simp [r.len], ?_, r.sln, fun k x hx => ?_, r.inn.push h r.len (live_ads hcl)⟩
  · rw [up b (ne_of_none e f1)]; exact r.hh b u hb ht e
  · rw [up b (fun z => r.al b hb (z ▸ h))]; exact r.al b hb
  · obtain ⟨ad', rfl, h1⟩ := r.pre
    refine ⟨ad' ++ [p], by simp, fun b hb => ?_⟩
    rcases List.mem_append.mp hb with hb | hb
    · exact h1 b hb
    · rw [List.mem_singleton] at hb; subst hb; exact f1
  · rw [List.nodup_append]
    exact ⟨r.nd, List.nodup_cons.mpr ⟨(fun z => nomatch z), List.nodup_nil⟩, fun b hb q hq e => by
      rw [List.mem_singleton] at hq; subst hq; subst e; exact f3 hb⟩
  · intro i q c' h1 h2
    by_cases hi : i < ad.length
    · rw [List.getElem?_append_left hi] at h1
      rw [List.getElem?_append_left (by have := r.len; omega)] at h2
      obtain ⟨n, l, ok⟩ := r.cel i q c' h1 h2
      have hq : q ≠ p := fun z => by subst z; exact n h
      exact ⟨by rw [up q hq]; exact n, l, ok.mono ⟨[p], rfl⟩ (Same.refl _) (fun o' e => by rw [up q hq]; exact e) fun q' hq' o' e => by rw [up q' (r.offI h (mem_ads h2 hq'))]; exact e⟩
    · have hi2 : i = ad.length := by
        have := (List.getElem?_eq_some_iff.mp h1).1
        simp at this; omega
      subst hi2
      rw [List.getElem?_append_right (Nat.le_refl _)] at h1
      rw [List.getElem?_append_right (by have := r.len; omega)] at h2
      have e1 : p = q := by simpa using h1
      have e2 : c = c' := by simpa [r.len] using h2
      subst e1; subst e2
      exact ⟨ne_none upd_same, fun _ => r.fh.free h, hc⟩
  · obtain ⟨v, h1, h2⟩ := r.slt k x hx
    exact ⟨v, h1, h2.mono ⟨[p], rfl⟩ (Same.refl _)⟩
theorem nodup_get {l : List Addr} (nd : l.Nodup) {i j : Nat} {p : Addr} (h1 : l[i]? = some p) (h2 : l[j]? = some p) : i = j := by
  exact (List.getElem?_inj (List.getElem?_eq_some_iff.mp h1).1 nd).mp (h1.trans h2.symm)
/-- a cell of our own changes -/
theorem Rl.put {c0 : Cell} (r : Rl B ad F H a σ) (hi : ad[i]? = some p) (h0 : a.cs[i]? = some c0) (hl : c0.live = true) (hc : COk ad F (upd H p o) p c) (hcl : c.ads = [] := by rfl) : Rl B ad F (upd H p o) ⟨a.sl, a.cs.set i c⟩ σ := by
  obtain ⟨n0, l0, ok0⟩ := r.cel i p c0 hi h0
  have hF := l0 hl
  have up : ∀ b, b ≠ p → upd H p o b = H b := fun b hb => upd_ne hb
  have offp : ∀ q, q ∈ a.cs.flatMap Cell.ads → q ≠ p := fun q hq z => by
    subst z
    rcases r.inn.off q hq i hi with e | ⟨t, e, _⟩
    · rw [h0] at e; cases e; cases hl
    · rw [h0] at e; cases e; cases hl
  refine ⟨r.ff, same_mut r.fh hF, fun b u hb ht e => ?_, fun b hb => ?_, r.new, r.pre, r.nd, by simp [r.len], ?_, r.sln, r.slt, r.inn.set hi h0 hl hcl (fun q _ h => h) fun q hq h => by rw [up q hq]; exact h⟩
  · have : b ≠ p := fun z => by
      subst z
      obtain ⟨ad', rfl, h1⟩ := r.pre
      rcases List.mem_append.mp (List.mem_of_getElem? hi) with h | h
      · exact hb h
      · rw [h1 b h] at e; cases e
    rw [up b this]; exact r.hh b u hb ht e
  · by_cases z : b = p
    · subst z; exact ne_none upd_same
    · rw [up b z]; exact r.al b hb
  · intro j q c' h1 h2
    by_cases hij : j = i
    · subst hij
      have e1 : p = q := by rw [hi] at h1; simpa using h1
      subst e1
      have hlt := (List.getElem?_eq_some_iff.mp h0).1
      have e2 : c = c' := by
        rw [List.getElem?_set_self hlt] at h2; simpa using h2
      subst e2
      exact ⟨ne_none upd_same, fun _ => hF, hc⟩
    · rw [List.getElem?_set_ne (fun z => hij z.symm)] at h2
      obtain ⟨n, l, ok⟩ := r.cel j q c' h1 h2
      have hq : q ≠ p := fun z => by subst z; exact hij (nodup_get r.nd h1 hi)
      exact ⟨by rw [up q hq]; exact n, l, ok.mono (Ext.refl _) (Same.refl _) (fun o' e => by rw [up q hq]; exact e) fun q' hq' o' e => by rw [up q' (offp q' (mem_ads h2 hq'))]; exact e⟩
/-- a cell of our own is told for good -/
theorem Rl.freeze {c0 : Cell} {y : PyData} (r : Rl B ad F H a σ) (hi : ad[i]? = some p) (h0 : a.cs[i]? = some c0) (hl : c0.live = true) (hn : B.S.length ≤ i) (ho : H p = some o) (hd : Da (upd F p o) y (.ref p)) : Rl B ad (upd F p o) H ⟨a.sl, a.cs.set i (.fz y)⟩ σ := by
  obtain ⟨n0, l0, ok0⟩ := r.cel i p c0 hi h0
  have hF := l0 hl
  have sF : Same F (upd F p o) := same_upd hF
  have hp0 : B.H0 p = none := by
    obtain ⟨ad', e, h1⟩ := r.pre
    rw [e, List.getElem?_append_right hn] at hi
    exact h1 p (List.mem_of_getElem? hi)
  refine ⟨r.ff.trans sF, Same.cell r.fh ho, r.hh, r.al, fun b e n => ?_, r.pre, r.nd, by simp [r.len], ?_, r.sln, fun k x hx => ?_, r.inn.set hi h0 hl rfl (fun q hq h => by rw [upd_ne hq]; exact h) fun q hq h => h⟩
  · have : b ≠ p := fun z => by subst z; exact n hp0
    rw [upd_ne this]; exact r.new b e n
  · intro j q c' h1 h2
    by_cases hij : j = i
    · subst hij
      have e1 : p = q := by rw [hi] at h1; simpa using h1
      subst e1
      have hlt := (List.getElem?_eq_some_iff.mp h0).1
      have e2 : Cell.fz y = c' := by
        rw [List.getElem?_set_self hlt] at h2; simpa using h2
      subst e2
      exact ⟨n0, (fun z => Bool.noConfusion z), hd⟩
    · rw [List.getElem?_set_ne (fun z => hij z.symm)] at h2
      obtain ⟨n, l, ok⟩ := r.cel j q c' h1 h2
      have hq : q ≠ p := fun z => by subst z; exact hij (nodup_get r.nd h1 hi)
      exact ⟨n, fun z => by rw [upd_ne hq]; exact l z, ok.mono (Ext.refl _) sF (fun o' e => e) fun _ _ o' e => e⟩
  · obtain ⟨v, h1, h2⟩ := r.slt k x hx
    exact ⟨v, h1, h2.mono (Ext.refl _) sF⟩
theorem Rl.set (r : Rl B ad F H a σ) (h : VOk ad F x v) : Rl B ad F H ⟨a.sl.set k (some x), a.cs⟩ (σ.set k (some v)) := by
  refine ⟨r.ff, r.fh, r.hh, r.al, r.new, r.pre, r.nd, r.len, r.cel, by simp [r.sln], fun j y hy => ?_, r.inn⟩
  by_cases hj : j = k
  · subst hj
    have hlt : j < a.sl.length := by
      have := (List.getElem?_eq_some_iff.mp hy).1
      simpa using this
    have e : x = y := by
      rw [List.getElem?_set_self hlt] at hy; simpa using hy
    subst e
    exact ⟨v, List.getElem?_set_self (by rw [← r.sln]; exact hlt), h⟩
  · have hy' : a.sl[j]? = some (some y) := by
      have : (a.sl.set k (some x))[j]? = a.sl[j]? := List.getElem?_set_ne (fun z => hj z.symm)
      rw [← this]; exact hy
    obtain ⟨w, h1, h2⟩ := r.slt j y hy'
    exact ⟨w, by rw [List.getElem?_set_ne (fun z => hj z.symm)]; exact h1, h2⟩
end
end Kr
/-! layer A2 -/
namespace Kr
open PySem L2
/-! ## judgements over abstract states -/
abbrev VQ := AVal → AS → Prop
abbrev TEA := AS → VQ → Prop
abbrev TTA := AS → (Bool → AS → Prop) → Prop
abbrev TLA := AS → (List AVal → AS → Prop) → Prop
abbrev TNA := AS → (Cell → AS → Prop) → Prop
abbrev TGA := AVal → AS → (AS → Prop) → Prop
structure DA where
  nx : AS → Prop
  rt : AVal → AS → Prop
  bk : AS → Prop
  ct : AS → Prop
abbrev TSA := DA → AS → Prop
def Post (B : Bs) (ad : List Addr) (F : Hp) (σ : St) (Q : VQ) : VK := fun v H2 => ∃ ad2 F2 x a2, Ext ad ad2 ∧ Same F F2 ∧ Rl B ad2 F2 H2 a2 σ ∧ VOk ad2 F2 x v ∧ Q x a2
def PostT (B : Bs) (ad : List Addr) (F : Hp) (σ : St) (Q : Bool → AS → Prop) : Bool → Hp → Prop := fun b H2 => ∃ ad2 F2 a2, Ext ad ad2 ∧ Same F F2 ∧ Rl B ad2 F2 H2 a2 σ ∧ Q b a2
def PostL (B : Bs) (ad : List Addr) (F : Hp) (σ : St) (n : Nat) (Q : List AVal → AS → Prop) : List V → Hp → Prop := fun vs H2 => ∃ ad2 F2 xs a2, Ext ad ad2 ∧ Same F F2 ∧ Rl B ad2 F2 H2 a2 σ ∧ Paired (VOk ad2 F2) xs vs ∧ xs.length = n ∧ Q xs a2
/-- a new cell -/
def PostN (B : Bs) (ad : List Addr) (F : Hp) (σ : St) (Q : Cell → AS → Prop) : VK := fun v H2 => ∃ ad2 F2 c a2 p H1 o, Ext ad ad2 ∧ Same F F2 ∧ Rl B ad2 F2 H1 a2 σ ∧ v = .ref p ∧ H1 p = none ∧ H2 = upd H1 p o ∧ COk ad2 F2 H2 p c ∧ c.live = true ∧ Q c a2
structure EA (X : Cx) (B : Bs) (e : Expr) (t : TEA) : Prop where
  run : ∀ ad F H s σ Q, Rl B ad F H s σ → t s Q → WE X e σ H (Post B ad F σ Q)
structure EN (X : Cx) (B : Bs) (e : Expr) (t : TNA) : Prop where
  run : ∀ ad F H s σ Q, Rl B ad F H s σ → t s Q → WE X e σ H (PostN B ad F σ Q)
structure ET (X : Cx) (B : Bs) (e : Expr) (t : TTA) : Prop where
  run : ∀ ad F H s σ Q, Rl B ad F H s σ → t s Q → WT X e σ H (PostT B ad F σ Q)
structure EW (X : Cx) (B : Bs) (e : Expr) (t : TTA) : Prop where
  run : ∀ ad F H s σ Q, Rl B ad F H s σ → t s Q → WW X e σ H (PostT B ad F σ Q)
structure EL (X : Cx) (B : Bs) (es : List Expr) (t : TLA) : Prop where
  run : ∀ ad F H s σ Q, Rl B ad F H s σ → t s Q → WA X es σ H (PostL B ad F σ es.length Q)
def liftD (B : Bs) (D : DA) : Ends where
  nx := fun σ H => ∃ ad F s, Rl B ad F H s σ ∧ D.nx s
  rt := fun v H => ∃ ad F x s σ, Rl B ad F H s σ ∧ VOk ad F x v ∧ D.rt x s
  bk := fun σ H => ∃ ad F s, Rl B ad F H s σ ∧ D.bk s
  ct := fun σ H => ∃ ad F s, Rl B ad F H s σ ∧ D.ct s
structure SA (X : Cx) (B : Bs) (st : Stmt) (t : TSA) : Prop where
  run : ∀ D s, t D s → ∀ ad F H σ, Rl B ad F H s σ → WS X st (liftD B D) σ H
structure SS (X : Cx) (B : Bs) (st : List Stmt) (t : TSA) : Prop where
  run : ∀ D s, t D s → ∀ ad F H σ, Rl B ad F H s σ → WSs X st (liftD B D) σ H
def onSome {α : Type} (o : Option α) (k : α → Prop) : Prop := ∃ v, o = some v ∧ k v
theorem onSome_some {α : Type} {v : α} {k : α → Prop} : onSome (some v) k = k v := propext ⟨fun ⟨_, e, h⟩ => by cases e; exact h, fun h => ⟨v, rfl, h⟩⟩
def AVal.int? : AVal → Option Int | .d (.int i) => some i | _ => none
def AVal.str? : AVal → Option Str | .d (.str i) => some i | _ => none
def AVal.bool? : AVal → Option Bool | .d (.bool i) => some i | _ => none
theorem AVal.int?_of {x : AVal} {i : Int} (h : x.int? = some i) : x = .d (.int i) := by
  unfold AVal.int? at h; split at h
  · cases h; rfl
  · cases h
theorem AVal.str?_of {x : AVal} {i : Str} (h : x.str? = some i) : x = .d (.str i) := by
  unfold AVal.str? at h; split at h
  · cases h; rfl
  · cases h
theorem AVal.bool?_of {x : AVal} {i : Bool} (h : x.bool? = some i) : x = .d (.bool i) := by
  unfold AVal.bool? at h; split at h
  · cases h; rfl
  · cases h
theorem AVal.int?_int {i : Int} : (AVal.d (.int i)).int? = some i := rfl
theorem AVal.str?_str {i : Str} : (AVal.d (.str i)).str? = some i := rfl
theorem AVal.bool?_bool {i : Bool} : (AVal.d (.bool i)).bool? = some i := rfl
/-! ### nodes of trees -/
def Tr.at (t : Tr) : List Nat → Option Tr
  | [] => some t
  | i :: p => match t.at p with
    | some (.nd _ _ xs) => xs[i]?
    | _ => none
def leafs : List Tr → Option (List PyData)
  | [] => some []
  | .d x :: xs => (leafs xs).map (x :: ·)
  | .nd _ _ _ :: _ => none
def nodeAt (s : AS) : AVal → Option (Nat × List Nat × Kd × Addr × List Tr)
  | .r n => match s.cs[n]? with
    | some (.tr (.nd k q xs)) => some (n, [], k, q, xs)
    | _ => none
  | .a p n pt => match s.cs[n]? with
    | some (.tr t) => match t.at pt with
      | some (.nd k q xs) => if q = p then some (n, pt, k, q, xs) else none
      | _ => none
    | _ => none
  | _ => none
def leafL : Option (Nat × List Nat × Kd × Addr × List Tr) → Option (List PyData)
  | some (_, _, .lst, _, xs) => leafs xs
  | _ => none
theorem TrAll.get {F H : Hp} : ∀ {ts : List Tr} {vs : List V} {i : Nat} {t : Tr}, TrAll F H ts vs → ts[i]? = some t → ∃ v, vs[i]? = some v ∧ TrOk F H t v
  | [], _, _, _, _, e => by simp at e
  | t0 :: ts, vs, i, t, h, e => by
    obtain ⟨v, r, rfl, h1, h2⟩ := (show ∃ v r, vs = v :: r ∧ TrOk F H t0 v ∧ TrAll F H ts r from h)
    cases i with
    | zero => simp at e; subst e; exact ⟨v, rfl, h1⟩
    | succ i => simpa using TrAll.get h2 (by simpa using e)
theorem TrAll.length {F H : Hp} : ∀ {ts : List Tr} {vs : List V}, TrAll F H ts vs → vs.length = ts.length
  | [], _, h => by obtain rfl := (show _ = [] from h); rfl
  | t :: ts, vs, h => by
    obtain ⟨v, r, rfl, _, h2⟩ := (show ∃ v r, vs = v :: r ∧ TrOk F H t v ∧ TrAll F H ts r from h)
    simp [TrAll.length h2]
theorem TrOk.node {F H : Hp} {k : Kd} {a : Addr} {xs : List Tr} {v : V} (h : TrOk F H (.nd k a xs) v) : v = .ref a ∧ ∃ vs, H a = some (k.ho vs) ∧ k.side H a xs.length ∧ TrAll F H xs vs := h
theorem TrOk.of {F H : Hp} {k : Kd} {a : Addr} {xs : List Tr} {vs : List V} (h1 : H a = some (k.ho vs)) (h2 : k.side H a xs.length) (h3 : TrAll F H xs vs) : TrOk F H (.nd k a xs) (.ref a) := (show V.ref a = .ref a ∧ ∃ vs, H a = some (k.ho vs) ∧ k.side H a xs.length ∧ TrAll F H xs vs from ⟨rfl, vs, h1, h2, h3⟩)
theorem TrOk.at {F H : Hp} {t : Tr} {v : V} (h : TrOk F H t v) : ∀ {pt : List Nat} {u : Tr}, t.at pt = some u → ∃ w, TrOk F H u w
  | [], u, e => by cases e; exact ⟨v, h⟩
  | i :: p, u, e => by
    unfold Tr.at at e
    split at e
    · rename_i k a xs hp
      obtain ⟨w, hw⟩ := TrOk.at h hp
      obtain ⟨_, vs, _, _, h3⟩ := hw.node
      obtain ⟨z, _, hz⟩ := h3.get e
      exact ⟨z, hz⟩
    · cases e
theorem leafs_ok {F H : Hp} : ∀ {ts : List Tr} {vs : List V} {ds : List PyData}, leafs ts = some ds → TrAll F H ts vs → DaAll F ds vs
  | [], _, _, e, h => by cases e; exact h
  | .d x :: ts, vs, ds, e, h => by
    obtain ⟨v, r, rfl, h1, h2⟩ := (show ∃ v r, vs = v :: r ∧ TrOk F H (.d x) v ∧ TrAll F H ts r from h)
    have e' : (leafs ts).map (x :: ·) = some ds := e
    cases hl : leafs ts with
    | none => rw [hl] at e'; cases e'
    | some l => rw [hl] at e'; cases e'; exact daAll_cons h1 (leafs_ok hl h2)
  | .nd _ _ _ :: _, _, _, e, _ => by cases e
theorem leafs_map (ds : List PyData) : leafs (ds.map .d) = some ds := by
  induction ds with
  | nil => rfl
  | cons d ds ih => show (leafs (ds.map .d)).map (d :: ·) = _; rw [ih]; rfl
structure NodeAt (ad : List Addr) (F H : Hp) (s : AS) (v : V) (n : Nat) (pt : List Nat) (k : Kd) (q : Addr) (xs : List Tr) (t : Tr) (p : Addr) (vs : List V) : Prop where
  cell : s.cs[n]? = some (.tr t)
  root : ad[n]? = some p
  here : t.at pt = some (.nd k q xs)
  val : v = .ref q
  ho : H q = some (k.ho vs)
  side : k.side H q xs.length
  kids : TrAll F H xs vs
  tree : TrOk F H t (.ref p)
theorem nodeAt_ok {B : Bs} {ad : List Addr} {F H : Hp} {s : AS} {σ : St} {x : AVal} {v : V} {n : Nat} {pt : List Nat} {k : Kd} {q : Addr} {xs : List Tr} (r : Rl B ad F H s σ) (h : VOk ad F x v) (e : nodeAt s x = some (n, pt, k, q, xs)) : ∃ t p vs, NodeAt ad F H s v n pt k q xs t p vs := by
  have key : ∀ (m : Nat) (t : Tr) (u : V), s.cs[m]? = some (.tr t) → t.at pt = some (.nd k q xs) → m = n → u = .ref q → ∃ t p vs, NodeAt ad F H s u n pt k q xs t p vs := by
    intro m t u hc ha hm hu
    subst hm
    have hl : m < ad.length := by rw [r.len]; exact (List.getElem?_eq_some_iff.mp hc).1
    have hp : ad[m]? = some ad[m] := List.getElem?_eq_getElem hl
    obtain ⟨_, _, h1, h2⟩ := r.cel m _ _ hp hc
    obtain ⟨w, hw⟩ := h2.at ha
    obtain ⟨_, vs, h4, h5, h6⟩ := hw.node
    exact ⟨t, ad[m], vs, hc, hp, ha, hu, h4, h5, h6, h2⟩
  cases x with
  | d _ => cases e
  | s _ _ => cases e
  | r m =>
    obtain ⟨a, h1, rfl⟩ := h
    simp only [nodeAt] at e
    split at e
    · rename_i k' q' xs' hc
      obtain ⟨_, _, h2, _⟩ := r.cel m _ _ h1 hc
      cases h2
      cases e
      exact key _ _ _ hc rfl rfl rfl
    · cases e
  | a p m pt' =>
    have h : v = .ref p := h
    subst h
    simp only [nodeAt] at e
    split at e
    · rename_i t hc
      split at e
      · rename_i k' q' xs' ha
        split at e
        · rename_i hq
          cases e
          exact key _ t _ hc ha rfl (by rw [hq])
        · cases e
      · cases e
    · cases e
/-- a list to be read, its items told for good -/
def listOf (s : AS) : AVal → Option (List PyData)
  | .d (.list ds) => some ds
  | .r n => match s.cs[n]? with
    | some (.lst ds) => some ds
    | some (.fz (.list ds)) => some ds
    | some (.tr (.nd .lst _ xs)) => leafs xs
    | _ => none
  | .a p n pt => leafL (nodeAt s (.a p n pt))
  | _ => none
theorem leafL_ok {B : Bs} {ad : List Addr} {F H : Hp} {s : AS} {σ : St} {x : AVal} {v : V} {ds : List PyData} (r : Rl B ad F H s σ) (h : VOk ad F x v) (e : leafL (nodeAt s x) = some ds) : ∃ l vs, v = .ref l ∧ H l = some (.lst vs) ∧ DaAll F ds vs := by
  unfold leafL at e
  split at e
  · rename_i n pt q xs hn
    obtain ⟨t, p, vs, N⟩ := nodeAt_ok r h hn
    exact ⟨q, vs, N.val, N.ho, leafs_ok e N.kids⟩
  · cases e
def dictD (kvs : List (Key × PyData)) : PyData := .dict (kvs.map fun p => (keyD p.1, p.2))
theorem noEx_dictD (kvs : List (Key × PyData)) : noEx (dictD kvs) = true := by
  cases kvs with
  | nil => rfl
  | cons p r =>
    obtain ⟨k, x⟩ := p
    cases k <;> rfl
def frzC : Cell → Option PyData
  | .lst ds => some (.list ds)
  | .dK kvs => some (dictD kvs)
  | .fz x => some x
  | _ => none
mutual
def Tr.data? : Tr → Option PyData
  | .d x => some x
  | .nd k _ xs => match k with
    | .lst => (Tr.datas? xs).map .list
    | .tup => (Tr.datas? xs).map .tuple
    | .dct ks => (Tr.datas? xs).map fun ds => dictD (ks.zip ds)
    | .dctT _ => none
    | .obj _ _ _ => none
def Tr.datas? : List Tr → Option (List PyData)
  | [] => some []
  | t :: ts => match t.data?, Tr.datas? ts with
    | some y, some ys => some (y :: ys)
    | _, _ => none
end
def cellD : Cell → Option PyData
  | .tr t => t.data?
  | c => frzC c
def dataOf (s : AS) : AVal → Option PyData
  | .d x => some x
  | .r n => (s.cs[n]?).bind cellD
  | .s _ _ => none
  | .a p n pt => match nodeAt s (.a p n pt) with
    | some (_, _, k, q, xs) => Tr.data? (.nd k q xs)
    | none => none
section
variable {X : Cx} {B : Bs} {ad ad1 : List Addr} {F F1 H H1 : Hp} {σ : St} {Q : VQ} {s : AS} {x y : AVal} {v u : V} {e a b c : Expr} {es : List Expr} {pos : Pos} {ta tb tc : TEA} {tx ty : TTA} {tl : TLA} {tn : TNA}
theorem Post.up (h : Post B ad1 F1 σ Q v H) (e : Ext ad ad1) (k : Same F F1) : Post B ad F σ Q v H := by
  obtain ⟨ad2, F2, x, a2, h1, h2, h3⟩ := h
  exact ⟨ad2, F2, x, a2, e.trans h1, k.trans h2, h3⟩
theorem PostT.up {Q : Bool → AS → Prop} {b : Bool} (h : PostT B ad1 F1 σ Q b H) (e : Ext ad ad1) (k : Same F F1) : PostT B ad F σ Q b H := by
  obtain ⟨ad2, F2, a2, h1, h2, h3⟩ := h
  exact ⟨ad2, F2, a2, e.trans h1, k.trans h2, h3⟩
theorem PostL.up {n : Nat} {Q : List AVal → AS → Prop} {vs : List V} (h : PostL B ad1 F1 σ n Q vs H) (e : Ext ad ad1) (k : Same F F1) : PostL B ad F σ n Q vs H := by
  obtain ⟨ad2, F2, x, a2, h1, h2, h3⟩ := h
  exact ⟨ad2, F2, x, a2, e.trans h1, k.trans h2, h3⟩
theorem PostN.up {Q : Cell → AS → Prop} (h : PostN B ad1 F1 σ Q v H) (e : Ext ad ad1) (k : Same F F1) : PostN B ad F σ Q v H := by
  obtain ⟨ad2, F2, c, a2, p, H1, o, h1, h2, h3⟩ := h
  exact ⟨ad2, F2, c, a2, p, H1, o, e.trans h1, k.trans h2, h3⟩
theorem Post.here (r : Rl B ad F H s σ) (h : VOk ad F x v) (q : Q x s) : Post B ad F σ Q v H := ⟨ad, F, x, s, Ext.refl _, Same.refl _, r, h, q⟩
theorem PostT.here {Q : Bool → AS → Prop} {b : Bool} (r : Rl B ad F H s σ) (q : Q b s) : PostT B ad F σ Q b H := ⟨ad, F, s, Ext.refl _, Same.refl _, r, q⟩
theorem Post.data {d : PyData} (r : Rl B ad F H s σ) (g : Gr F H F1 H1) (h : Da F1 d v) (q : Q (.d d) s) : Post B ad F σ Q v H1 := ⟨ad, F1, .d d, s, Ext.refl _, g.ff, r.gr g, h, q⟩
/-- a new thing that is told for good -/
theorem Post.newD {d : PyData} {p : Addr} {o : HO} (r : Rl B ad F H s σ) (hp : H p = none) (h : Da (upd F p o) d (.ref p)) (q : Q (.d d) s) : Post B ad F σ Q (.ref p) (upd H p o) := Post.data r ((Gr.refl r.fh).shut hp) h q
theorem PostN.here {Q : Cell → AS → Prop} {p : Addr} {o : HO} {c : Cell} (r : Rl B ad F H s σ) (hp : H p = none) (h : COk ad F (upd H p o) p c) (hl : c.live = true) (q : Q c s) : PostN B ad F σ Q (.ref p) (upd H p o) :=
  ⟨ad, F, c, s, p, H, o, Ext.refl _, Same.refl _, r, rfl, hp, rfl, h, hl, q⟩
theorem VOk.list {ds : List PyData} (r : Rl B ad F H s σ) (h : VOk ad F x v) (e : listOf s x = some ds) : ∃ l vs, v = .ref l ∧ H l = some (.lst vs) ∧ DaAll F ds vs := by
  unfold listOf at e
  split at e
  · cases e
    obtain ⟨a, xs, rfl, h1, h2⟩ := h
    exact ⟨a, xs, rfl, r.fh _ _ h1, h2⟩
  · rename_i n
    obtain ⟨a, h1, rfl⟩ := h
    split at e
    · rename_i ds' hc
      cases e
      obtain ⟨_, _, vs, h2, h3⟩ := r.cel n a _ h1 hc
      exact ⟨a, vs, rfl, h2, h3⟩
    · rename_i ds' hc
      cases e
      obtain ⟨_, _, h4⟩ := r.cel n a _ h1 hc
      obtain ⟨a', xs, e', h2, h3⟩ := h4
      cases e'
      exact ⟨a, xs, rfl, r.fh _ _ h2, h3⟩
    · rename_i q xs hc
      obtain ⟨_, _, h2, h3⟩ := r.cel n a _ h1 hc
      cases h2
      obtain ⟨_, vs, h4, _, h5⟩ := h3.node
      exact ⟨_, vs, rfl, h4, leafs_ok e h5⟩
    · cases e
  · exact leafL_ok r h e
  · cases e
theorem daKV_of {F : Hp} : ∀ {kvs : List (Key × PyData)} {es : List (Key × V)}, KvOk F kvs es → DaKV F (kvs.map fun p => (keyD p.1, p.2)) es
  | _, _, .nil => rfl
  | _, _, .cons (a := p) (b := q) h t => by
    refine ⟨q.1, q.2, _, rfl, ?_, h.2, daKV_of t⟩
    rw [h.1]
    cases q.1 <;> rfl
theorem KvOk.mono {F F' : Hp} {kvs : List (Key × PyData)} {es : List (Key × V)} (h : KvOk F kvs es) (k : Same F F') : KvOk F' kvs es := Paired.imp h fun _ _ h => ⟨h.1, h.2.mono k⟩
/-- what a cell holds, told for good -/
theorem COk.frz {p : Addr} {c : Cell} {d : PyData} (h : COk ad F H p c) (hl : c.live = true) (hF : F p = none) (e : frzC c = some d) : ∃ o, H p = some o ∧ Da (upd F p o) d (.ref p) := by
  cases c with
  | lst ds => cases e; obtain ⟨vs, h1, h2⟩ := h; exact ⟨_, h1, p, vs, rfl, upd_same, h2.mono (same_upd hF)⟩
  | dK ds => cases e; obtain ⟨vs, h1, h2⟩ := h; exact ⟨_, h1, Da.ofDict (.inl upd_same) (daKV_of (h2.mono (same_upd hF)))⟩
  | fz x => cases hl
  | pool n => cases e
  | gone => cases e
  | nl xs => cases e
  | nt xs => cases e
  | nd xs => cases e
  | dl _ _ _ => cases e
  | tr _ => cases e
/-! ### names and constants -/
def varA (k : Nat) : TEA := fun s Q => onSome (s.sl[k]?.bind id) fun x => Q x s
theorem ea_v (k : Nat) {x : Str} (hN : X.N[k]? = some x := by rfl) (hv : Vis X.env.scope x := by first | exact Or.inl rfl | exact Or.inr (Or.inl rfl) | exact Or.inr (Or.inr rfl)) (hd : (x == ("__debug__" : Str)) = false := by decide)
    (hcd : (x == ("__classdict__" : Str)) = false := by decide) : EA X B (.Name x pos) (varA k) := ⟨fun ad F H s σ Q r t => by
  obtain ⟨y, e, q⟩ := t
  have e' : s.sl[k]? = some (some y) := by
    cases h : s.sl[k]? with
    | none => rw [h] at e; cases e
    | some o => rw [h] at e; cases o with
      | none => cases e
      | some z => cases e; rfl
  obtain ⟨v, h1, h2⟩ := r.slt k y e'
  exact we_of (pe_var hN hv hd hcd) ⟨v, h1, .here r h2 q⟩⟩
def cstA (d : PyData) : TEA := fun s Q => Q (.d d) s
theorem ea_int {i : Int} {k : Nat} : EA X B (.Constant (.int i) k pos) (cstA (.int i)) := ⟨fun ad F H s σ Q r t => we_of pe_int (.here (x := .d (.int i)) r rfl t)⟩
theorem ea_str {i : Str} {k : Nat} : EA X B (.Constant (.str i) k pos) (cstA (.str i)) := ⟨fun ad F H s σ Q r t => we_of pe_str (.here (x := .d (.str i)) r rfl t)⟩
theorem ea_bool {i : Bool} {k : Nat} : EA X B (.Constant (.bool i) k pos) (cstA (.bool i)) := ⟨fun ad F H s σ Q r t => we_of pe_bl (.here (x := .d (.bool i)) r rfl t)⟩
theorem ea_globI {x : Str} {i : Int} (h : Mg X.mg x (.int i)) (hg : Gl X x := by rfl) (hd : (x == ("__debug__" : Str)) = false := by decide) : EA X B (.Name x pos) (cstA (.int i)) := by
  obtain ⟨u, h1, h2⟩ := h
  exact ⟨fun ad F H s σ Q r t => we_of (pe_glob hg h1 h2 hd) (.here (x := .d (.int i)) r rfl t)⟩
/-! ### new things -/
def ownA (t : TNA) : TEA := fun s Q => t s fun c s1 => Q (.r s1.cs.length) ⟨s1.sl, s1.cs ++ [c]⟩
def frzA (t : TNA) : TEA := fun s Q => t s fun c s1 => onSome (frzC c) fun d => Q (.d d) s1
theorem ea_own (h : EN X B e tn) : EA X B e (ownA tn) := ⟨fun ad F H s σ Q r t => (h.run ad F H s σ _ r t).imp fun v H2 q => by
  obtain ⟨ad2, F2, c, a2, p, H1, o, h1, h2, r2, rfl, hp, rfl, ok, hl, q⟩ := q
  have r3 := r2.push (o := o) hp (ok.mono (ad2 := ad2 ++ [p]) ⟨[p], rfl⟩ (Same.refl _) (fun _ e => e) fun _ _ _ e => e) hl
  exact ⟨_, F2, .r a2.cs.length, _, h1.trans ⟨[p], rfl⟩, h2, r3, ⟨p, by rw [← r2.len]; simp, rfl⟩, q⟩⟩
theorem ea_frz (h : EN X B e tn) : EA X B e (frzA tn) := ⟨fun ad F H s σ Q r t => (h.run ad F H s σ _ r t).imp fun v H2 q => by
  obtain ⟨ad2, F2, c, a2, p, H1, o, h1, h2, r2, rfl, hp, rfl, ok, hl, d, hd, q⟩ := q
  obtain ⟨o', e1, e2⟩ := ok.frz hl (r2.fh.free hp) hd
  rw [upd_same] at e1
  cases e1
  exact (Post.newD r2 hp e2 q).up h1 h2⟩
/-! ### two operands -/
def rAny (X : Cx) (f : Value → Value → Sem Value) : R2 := fun u v H Q => ∃ r, OpR X f r ∧ r u v H Q
theorem op_any (f : Value → Value → Sem Value) : OpR X f (rAny X f) := fun pins s σ H x y v u Q I rx ry ⟨r, h, q⟩ => h pins s σ H x y v u Q I rx ry q
def OpA (X : Cx) (B : Bs) (f : Value → Value → Sem Value) (rr : AVal → AVal → TEA) : Prop := ∀ ad F H s σ x y u v Q, Rl B ad F H s σ → VOk ad F x u → VOk ad F y v → rr x y s Q → ∃ r, OpR X f r ∧ r u v H (Post B ad F σ Q)
def OpN (X : Cx) (B : Bs) (f : Value → Value → Sem Value) (rr : AVal → AVal → TNA) : Prop := ∀ ad F H s σ x y u v Q, Rl B ad F H s σ → VOk ad F x u → VOk ad F y v → rr x y s Q → ∃ r, OpR X f r ∧ r u v H (PostN B ad F σ Q)
def opA (rr : AVal → AVal → TEA) (ta tb : TEA) : TEA := fun s Q => ta s fun x s1 => tb s1 fun y s2 => rr x y s2 Q
def opN (rr : AVal → AVal → TNA) (ta tb : TEA) : TNA := fun s Q => ta s fun x s1 => tb s1 fun y s2 => rr x y s2 Q
theorem we2 {R : V → V → Hp → Prop} {K : VK} {ad : List Addr} {F H : Hp} {s : AS} {Q2 : AVal → AVal → AS → Prop} (ha : EA X B a ta) (hb : EA X B b tb) (r : Rl B ad F H s σ) (t : ta s fun x s1 => tb s1 fun y s2 => Q2 x y s2)
    (k : ∀ ad2 F2 H2 s2 x y u v, Ext ad ad2 → Same F F2 → Rl B ad2 F2 H2 s2 σ → VOk ad2 F2 x u → VOk ad2 F2 y v → Q2 x y s2 → R u v H2) : WE X a σ H fun u H1 => WE X b σ H1 fun v H2 => R u v H2 :=
  (ha.run ad F H s σ _ r t).imp fun u H1 q => by
    obtain ⟨ad1, F1, x, s1, e1, k1, r1, v1, t1⟩ := q
    refine (hb.run ad1 F1 H1 s1 σ _ r1 t1).imp fun v H2 q => ?_
    obtain ⟨ad2, F2, y, s2, e2, k2, r2, v2, t2⟩ := q
    exact k ad2 F2 H2 s2 x y u v (e1.trans e2) (k1.trans k2) r2 (v1.mono e2 k2) v2 t2
theorem ea_op {op : Operator} {rr : AVal → AVal → TEA} (ho : OpA X B (binaryOp op) rr) (ha : EA X B a ta) (hb : EA X B b tb) : EA X B (.BinOp a op b pos) (opA rr ta tb) := ⟨fun ad F H s σ Q r t =>
  we_of (pe_op (op_any _) pe_we pe_we) (we2 (R := fun u v H2 => rAny X (binaryOp op) u v H2 (Post B ad F σ Q)) (K := Post B ad F σ Q) ha hb r t fun ad2 F2 H2 s2 x y u v e k r2 hu hv t2 => by
    obtain ⟨q, h1, h2⟩ := ho ad2 F2 H2 s2 σ x y u v Q r2 hu hv t2
    exact ⟨fun u v H K => ∃ K', (∀ w H', K' w H' → K w H') ∧ q u v H K', fun pins s σ H x y v u Q I rx ry ⟨K', k1, k2⟩ => thn (h1 pins s σ H x y v u K' I rx ry k2) fun z s' ⟨w, H', I', rz, qz⟩ => ⟨w, H', I', rz, k1 w H' qz⟩, _, fun w H' p => Post.up p e k, h2⟩)⟩
theorem en_op {op : Operator} {rr : AVal → AVal → TNA} (ho : OpN X B (binaryOp op) rr) (ha : EA X B a ta) (hb : EA X B b tb) : EN X B (.BinOp a op b pos) (opN rr ta tb) := ⟨fun ad F H s σ Q r t =>
  we_of (pe_op (op_any _) pe_we pe_we) (we2 (R := fun u v H2 => rAny X (binaryOp op) u v H2 (PostN B ad F σ Q)) (K := PostN B ad F σ Q) ha hb r t fun ad2 F2 H2 s2 x y u v e k r2 hu hv t2 => by
    obtain ⟨q, h1, h2⟩ := ho ad2 F2 H2 s2 σ x y u v Q r2 hu hv t2
    exact ⟨fun u v H K => ∃ K', (∀ w H', K' w H' → K w H') ∧ q u v H K', fun pins s σ H x y v u Q I rx ry ⟨K', k1, k2⟩ => thn (h1 pins s σ H x y v u K' I rx ry k2) fun z s' ⟨w, H', I', rz, qz⟩ => ⟨w, H', I', rz, k1 w H' qz⟩, _, fun w H' p => PostN.up p e k, h2⟩)⟩
/-! ### comparisons: told is a truth -/
def opT (rr : AVal → AVal → TTA) (ta tb : TEA) : TTA := fun s Q => ta s fun x s1 => tb s1 fun y s2 => rr x y s2 Q
def OpT (X : Cx) (B : Bs) (f : Value → Value → Sem Value) (rr : AVal → AVal → TTA) : Prop := ∀ ad F H s σ x y u v (Q : Bool → AS → Prop), Rl B ad F H s σ → VOk ad F x u → VOk ad F y v → rr x y s Q → ∃ b r, Q b s ∧ OpR X f r ∧ ∀ K : VK, K (.bl b) H → r u v H K
def boolA (t : TTA) : TEA := fun s Q => t s fun b s1 => Q (.d (.bool b)) s1
theorem et_cmp {op : CmpOp} {rr : AVal → AVal → TTA} (ho : OpT X B (compareOp op) rr) (ha : EA X B a ta) (hb : EA X B b tb) (hm : behindInMarks op b = false := by first | exact nomark _ | rfl) : ET X B (.Compare a [op] [b] pos) (opT rr ta tb) := ⟨fun ad F H s σ Q r t =>
  wt_of (pt_cmpR (op_any _) pe_we pe_we hm) (we2 (R := fun u v H2 => rAny X (compareOp op) u v H2 fun x H' => ∃ k, x = .bl k ∧ PostT B ad F σ Q k H') (K := fun _ _ => True) ha hb r t fun ad2 F2 H2 s2 x y u v e k r2 hu hv t2 => by
    obtain ⟨b, q, h0, h1, h2⟩ := ho ad2 F2 H2 s2 σ x y u v Q r2 hu hv t2
    exact ⟨q, h1, h2 _ ⟨b, rfl, (PostT.here r2 h0).up e k⟩⟩)⟩
theorem ea_cmp {op : CmpOp} {rr : AVal → AVal → TTA} (ho : OpT X B (compareOp op) rr) (ha : EA X B a ta) (hb : EA X B b tb) (hm : behindInMarks op b = false := by first | exact nomark _ | rfl) : EA X B (.Compare a [op] [b] pos) (boolA (opT rr ta tb)) := ⟨fun ad F H s σ Q r t =>
  we_of (pe_cmpR (op_any _) pe_we pe_we hm) (we2 (R := fun u v H2 => rAny X (compareOp op) u v H2 (Post B ad F σ Q)) (K := fun _ _ => True) ha hb r t fun ad2 F2 H2 s2 x y u v e k r2 hu hv t2 => by
    obtain ⟨b, q, h0, h1, h2⟩ := ho ad2 F2 H2 s2 σ x y u v _ r2 hu hv t2
    exact ⟨q, h1, h2 _ ((Post.here (x := .d (.bool b)) r2 rfl h0).up e k)⟩)⟩
/-! ### truth -/
def valA (t : TEA) : TTA := fun s Q => t s fun x s1 => onSome x.bool? fun b => Q b s1
theorem et_val (h : EA X B e ta) (he : ∀ whole, isTrue e X.env whole = (do let v ← whole; standAt e.pos; holding [v] (truthy v)) := by intro _; rfl) : ET X B e (valA ta) := ⟨fun ad F H s σ Q r t =>
  wt_of (pt_val pe_we he) ((h.run ad F H s σ _ r t).imp fun v H2 q => by
    obtain ⟨ad2, F2, x, a2, h1, h2, r2, hv, b, hb, q⟩ := q
    have := AVal.bool?_of hb
    subst this
    exact ⟨b, hv, ad2, F2, a2, h1, h2, r2, q⟩)⟩
theorem ET.of_w (h : EW X B e tx) : ET X B e tx := ⟨fun ad F H s σ Q r t => wt_of (PW.pt pw_ww) (h.run ad F H s σ Q r t)⟩
def notA (t : TTA) : TTA := fun s Q => t s fun b s1 => Q (!b) s1
theorem et_not (h : ET X B a tx) : ET X B (.UnaryOp .Not a pos) (notA tx) := ⟨fun ad F H s σ Q r t => wt_of (pt_not pt_wt) (h.run ad F H s σ _ r t)⟩
def andA (t u : TTA) : TTA := fun s Q => t s fun b s1 => if b = true then u s1 Q else Q false s1
def orA (t u : TTA) : TTA := fun s Q => t s fun b s1 => if b = true then Q true s1 else u s1 Q
theorem ew_and1 (h : ET X B a tx) : EW X B (.BoolOp .And [a] pos) tx := ⟨fun ad F H s σ Q r t => ww_of (pw_and1 pt_wt) (h.run ad F H s σ Q r t)⟩
theorem ew_or1 (h : ET X B a tx) : EW X B (.BoolOp .Or [a] pos) tx := ⟨fun ad F H s σ Q r t => ww_of (pw_or1 pt_wt) (h.run ad F H s σ Q r t)⟩
theorem ew_and (h : ET X B a tx) (h2 : EW X B (.BoolOp .And (b :: es) pos) ty) : EW X B (.BoolOp .And (a :: b :: es) pos) (andA tx ty) := ⟨fun ad F H s σ Q r t => ww_of (pw_and pt_wt pw_ww) ((h.run ad F H s σ _ r t).imp fun c H1 q => by
  obtain ⟨ad1, F1, s1, e1, k1, r1, q⟩ := q
  cases c with
  | true =>
    refine iteT ?_
    rw [if_pos rfl] at q
    intro whole pins s' I
    exact thn (h2.run ad1 F1 H1 s1 σ Q r1 q whole pins s' I) fun z s2 ⟨H', I', p⟩ => ⟨H', I', p.up e1 k1⟩
  | false => exact iteF ⟨ad1, F1, s1, e1, k1, r1, q⟩)⟩
theorem ew_or (h : ET X B a tx) (h2 : EW X B (.BoolOp .Or (b :: es) pos) ty) : EW X B (.BoolOp .Or (a :: b :: es) pos) (orA tx ty) := ⟨fun ad F H s σ Q r t => ww_of (pw_or pt_wt pw_ww) ((h.run ad F H s σ _ r t).imp fun c H1 q => by
  obtain ⟨ad1, F1, s1, e1, k1, r1, q⟩ := q
  cases c with
  | true => exact iteT ⟨ad1, F1, s1, e1, k1, r1, q⟩
  | false =>
    refine iteF ?_
    intro whole pins s' I
    exact thn (h2.run ad1 F1 H1 s1 σ Q r1 q whole pins s' I) fun z s2 ⟨H', I', p⟩ => ⟨H', I', p.up e1 k1⟩)⟩
/-- and, or, not as values -/
def andV (t u : TEA) : TEA := fun s Q => t s fun x s1 => onSome x.bool? fun b => if b = true then u s1 Q else Q (.d (.bool false)) s1
def orV (t u : TEA) : TEA := fun s Q => t s fun x s1 => onSome x.bool? fun b => if b = true then Q (.d (.bool true)) s1 else u s1 Q
def notV (t : TEA) : TEA := fun s Q => t s fun x s1 => onSome x.bool? fun b => Q (.d (.bool (!b))) s1
def ifV (t : TTA) (u w : TEA) : TEA := fun s Q => t s fun b s1 => if b = true then u s1 Q else w s1 Q
/-! ### argument lists, displays -/
def nilL : TLA := fun s Q => Q [] s
def consL (t : TEA) (u : TLA) : TLA := fun s Q => t s fun x s1 => u s1 fun xs s2 => Q (x :: xs) s2
theorem el_nil : EL X B [] nilL := ⟨fun ad F H s σ Q r t => wa_of pa_nil ⟨ad, F, [], s, Ext.refl _, Same.refl _, r, .nil, rfl, t⟩⟩
theorem WA.imp {es : List Expr} {σ : St} {H : Hp} {Q Q' : List V → Hp → Prop} (h : WA X es σ H Q) (q : ∀ v H', Q v H' → Q' v H') : WA X es σ H Q' := fun pos pins s I => thn (h pos pins s I) fun u s' ⟨v, H', I', r, k⟩ => ⟨v, H', I', r, q v H' k⟩
theorem el_cons (h : EA X B e ta) (t : EL X B es tl) (hs : starEach (e :: es) X.env = (false, eval e X.env) :: starEach es X.env := by rfl) : EL X B (e :: es) (consL ta tl) := ⟨fun ad F H s σ Q r t' =>
  wa_of (pa_cons pe_we pa_wa hs) ((h.run ad F H s σ _ r t').imp fun v H1 q => by
    obtain ⟨ad1, F1, x, s1, e1, k1, r1, hv, q⟩ := q
    refine (t.run ad1 F1 H1 s1 σ _ r1 q).imp fun vs H2 q => ?_
    obtain ⟨ad2, F2, xs, s2, e2, k2, r2, hvs, hln, q⟩ := q
    exact ⟨ad2, F2, x :: xs, s2, e1.trans e2, k1.trans k2, r2, .cons (hv.mono e2 k2) hvs, by simp [hln], q⟩)⟩
/-- items that are told for good -/
def datas : List AVal → Option (List PyData)
  | [] => some []
  | .d x :: xs => (datas xs).map (x :: ·)
  | .r _ :: _ => none
  | .s _ _ :: _ => none
  | .a _ _ _ :: _ => none
theorem datas_ok : ∀ {xs : List AVal} {vs : List V} {ds : List PyData}, Paired (VOk ad F) xs vs → datas xs = some ds → DaAll F ds vs
  | [], _, _, .nil, e => by cases e; rfl
  | .d x :: xs, _, ds, .cons h t, e => by
    unfold datas at e
    cases h2 : datas xs with
    | none => rw [h2] at e; cases e
    | some r => rw [h2] at e; cases e; exact daAll_cons h (datas_ok t h2)
  | .r _ :: _, _, _, _, e => by cases e
  | .s _ _ :: _, _, _, _, e => by cases e
  | .a _ _ _ :: _, _, _, _, e => by cases e
def lstN (t : TLA) : TNA := fun s Q => t s fun xs s1 => xs.length ≤ sizeLine ∧ onSome (datas xs) fun ds => Q (.lst ds) s1
theorem Paired.len {α β : Type} {R : α → β → Prop} : ∀ {xs : List α} {ys : List β}, Paired R xs ys → xs.length = ys.length
  | _, _, .nil => rfl
  | _, _, .cons _ t => by simp [Paired.len t]
theorem en_lst (h : EL X B es tl) : EN X B (.List es pos) (lstN tl) := ⟨fun ad F H s σ Q r t => we_of (pe_lst pa_wa) ((h.run ad F H s σ _ r t).imp fun vs H1 q => by
  obtain ⟨ad1, F1, xs, s1, e1, k1, r1, hvs, hln, hz, ds, hds, q⟩ := q
  exact ⟨by rw [← Paired.len hvs]; exact hz, fun p hp => (PostN.here (c := .lst ds) r1 hp ⟨vs, upd_same, datas_ok hvs hds⟩ rfl q).up e1 k1⟩)⟩
def tupA (t : TLA) : TEA := fun s Q => t s fun xs s1 => xs.length ≤ sizeLine ∧ onSome (datas xs) fun ds => Q (.d (.tuple ds)) s1
theorem ea_tup {x1} (h : EL X B es tl) : EA X B (.Tuple es x1 pos) (tupA tl) := ⟨fun ad F H s σ Q r t => we_of (pe_tup pa_wa) ((h.run ad F H s σ _ r t).imp fun vs H1 q => by
  obtain ⟨ad1, F1, xs, s1, e1, k1, r1, hvs, hln, hz, ds, hds, q⟩ := q
  refine ⟨by rw [← Paired.len hvs]; exact hz, fun p hp => (Post.newD (d := .tuple ds) r1 hp ⟨p, vs, rfl, upd_same, (datas_ok hvs hds).mono (same_upd (r1.fh.free hp))⟩ q).up e1 k1⟩)⟩
def tupR (t : TLA) : TNA := fun s Q => t s fun xs s1 => xs.length ≤ sizeLine ∧ Q (.nt xs) s1
end
end Kr
/-! layer A3 -/
namespace Kr
open PySem L2
section
variable {B : Bs} {ad ad2 : List Addr} {F H F2 H2 : Hp} {s s2 : AS} {σ σ2 : St}
/-! ## another beginning -/
abbrev Bs.at (ad : List Addr) (F H : Hp) (T : List Addr) : Bs := ⟨ad, F, H, T⟩
theorem Rl.base (r : Rl B ad F H s σ) : Rl (Bs.at ad F H (s.cs.flatMap Cell.ads)) ad F H s σ :=
  ⟨Same.refl _, r.fh, fun _ _ _ _ e => e, fun b hb => hb.elim (fun h => r.mem h) (fun h => (r.inn.fr b h).2), fun b e _ => e, ⟨[], by simp [Bs.at], fun b hb => nomatch hb⟩, r.nd, r.len, r.cel, r.sln, r.slt, ⟨r.inn.nd, r.inn.off, r.inn.fr, fun q hq => .inr (.inl hq), fun b hb => (r.inn.fr b hb).2⟩⟩
theorem Rl.inS (r : Rl B ad F H s σ) {b : Addr} (h : b ∈ ad) : b ∈ B.S ∨ B.H0 b = none := by
  obtain ⟨ad', e', h1⟩ := r.pre
  rw [e'] at h
  exact (List.mem_append.mp h).elim .inl fun z => .inr (h1 b z)
theorem Rl.rebase (r : Rl B ad F H s σ) (q : Rl (Bs.at ad F H (s.cs.flatMap Cell.ads)) ad2 F2 H2 s2 σ2) : Rl B ad2 F2 H2 s2 σ2 := by
  refine ⟨r.ff.trans q.ff, q.fh, fun b o hb ht e => ?_, fun b hb => ?_, fun b e n => ?_, ?_, q.nd, q.len, q.cel, q.sln, q.slt, ⟨q.inn.nd, q.inn.off, q.inn.fr, fun x hx => ?_, r.inn.old⟩⟩
  · refine q.hh b o (fun z => ?_) (fun z => ?_) (r.hh b o hb ht e)
    · rcases r.inS z with z | z
      · exact hb z
      · rw [z] at e; cases e
    · rcases r.inn.own b z with z | z | z
      · exact hb z
      · exact ht z
      · rw [z] at e; cases e
  · exact q.there (r.al b hb)
  · exact q.new b (r.new b e n) (r.there n)
  · obtain ⟨ad', e', h1⟩ := r.pre
    obtain ⟨ad3, e3, h3⟩ := q.pre
    refine ⟨ad' ++ ad3, by rw [e3]; show ad ++ ad3 = _; rw [e', List.append_assoc], fun b hb => ?_⟩
    rcases List.mem_append.mp hb with hb | hb
    · exact h1 b hb
    · exact (r.fresh (h3 b hb)).1
  · rcases q.inn.own x hx with z | z | z
    · exact (r.inS z).elim .inl fun z => .inr (.inr z)
    · exact r.inn.own x z
    · exact .inr (.inr (r.fresh z).1)
theorem Rl.ext {T : List Addr} (q : Rl (Bs.at ad F H T) ad2 F2 H2 s2 σ2) : Ext ad ad2 ∧ Same F F2 := ⟨let ⟨ad3, e3, _⟩ := q.pre; ⟨ad3, e3⟩, q.ff⟩
/-- a higher floor of what is told -/
abbrev Bs.fl (B : Bs) (F : Hp) : Bs := ⟨B.S, F, B.H0, B.T⟩
theorem Rl.floor (r : Rl B ad F H s σ) : Rl (B.fl F) ad F H s σ :=
  ⟨Same.refl _, r.fh, r.hh, r.al, fun b e _ => e, r.pre, r.nd, r.len, r.cel, r.sln, r.slt, ⟨r.inn.nd, r.inn.off, r.inn.fr, r.inn.own, r.inn.old⟩⟩
theorem Rl.unfloor (r : Rl B ad F H s σ) (q : Rl (B.fl F) ad2 F2 H2 s2 σ2) : Rl B ad2 F2 H2 s2 σ2 :=
  ⟨r.ff.trans q.ff, q.fh, q.hh, q.al, fun b e n => q.new b (r.new b e n) n, q.pre, q.nd, q.len, q.cel, q.sln, q.slt, ⟨q.inn.nd, q.inn.off, q.inn.fr, q.inn.own, q.inn.old⟩⟩
/-- other slots than those spoken of -/
theorem Rl.back {sl : List (Option AVal)} {cs : List Cell} {B2 : Bs} (r : Rl B2 ad F H ⟨sl, cs⟩ σ) (q : Rl B ad2 F2 H2 s2 σ2) (e : Ext ad ad2) (k : Same F F2) : Rl B ad2 F2 H2 ⟨sl, s2.cs⟩ σ :=
  ⟨q.ff, q.fh, q.hh, q.al, q.new, q.pre, q.nd, q.len, q.cel, r.sln, fun j x h => by
    obtain ⟨v, h1, h2⟩ := r.slt j x h
    exact ⟨v, h1, h2.mono e k⟩, q.inn⟩
/-- a cell that is none of ours stays -/
theorem Rl.aside {p : Addr} {o : HO} {T : List Addr} (q : Rl (Bs.at ad F H T) ad2 F2 H2 s2 σ2) (hp : p ∉ ad) (hT : p ∉ T) (ho : H p = some o) (hF : F p = none) : H2 p = some o ∧ F2 p = none ∧ p ∉ ad2 ∧ p ∉ s2.cs.flatMap Cell.ads := by
  refine ⟨q.hh p o hp hT ho, q.new p hF (ne_none ho), fun z => ?_, fun z => ?_⟩
  · obtain ⟨ad3, e3, h3⟩ := q.pre
    rw [e3] at z
    rcases List.mem_append.mp z with z | z
    · exact hp z
    · have : H p = none := h3 p z
      rw [ho] at this; cases this
  · rcases q.inn.own p z with z | z | z
    · exact hp z
    · exact hT z
    · have z : H p = none := z
      rw [ho] at z; cases z
end
/-! ## slots that a target sets -/
def Keeps (ks : List Nat) (σ σ2 : St) : Prop := σ2.length = σ.length ∧ ∀ j, j ∉ ks → σ2[j]? = σ[j]?
theorem Keeps.refl (σ : St) : Keeps [] σ σ := ⟨rfl, fun _ _ => rfl⟩
theorem Keeps.set (σ : St) (k : Nat) (v : Option V) : Keeps [k] σ (σ.set k v) := ⟨by simp, fun j hj => List.getElem?_set_ne (fun z => hj (by simp [z]))⟩
theorem Keeps.trans {ks ls : List Nat} {σ σ1 σ2 : St} (a : Keeps ks σ σ1) (b : Keeps ls σ1 σ2) : Keeps (ks ++ ls) σ σ2 := ⟨b.1.trans a.1, fun j hj => (b.2 j fun z => hj (List.mem_append_right _ z)).trans (a.2 j fun z => hj (List.mem_append_left _ z))⟩
theorem wipe_get (σ : St) : ∀ (vs : List Nat) (j : Nat), (wipe σ vs)[j]? = if j ∈ vs then (σ[j]?).map (fun _ => none) else σ[j]?
  | [], j => by simp [wipe]
  | v :: vs, j => by
    show ((wipe σ vs).set v none)[j]? = _
    by_cases hj : j = v
    · subst hj
      rw [if_pos (List.mem_cons_self ..)]
      by_cases hl : j < σ.length
      · rw [List.getElem?_set_self (by rw [wipe_length]; exact hl), List.getElem?_eq_getElem hl]; rfl
      · rw [List.getElem?_eq_none (by simp [wipe_length]; omega), List.getElem?_eq_none (by omega)]; rfl
    · rw [List.getElem?_set_ne (fun z => hj z.symm), wipe_get σ vs j]
      by_cases hm : j ∈ vs
      · rw [if_pos hm, if_pos (List.mem_cons_of_mem _ hm)]
      · rw [if_neg hm, if_neg (by simp [hj, hm])]
theorem wipe_keeps {ks vs : List Nat} {σ σ2 : St} (h : Keeps ks (wipe σ vs) σ2) (hs : ∀ k ∈ ks, k ∈ vs) : wipe σ2 vs = wipe σ vs := by
  apply List.ext_getElem?
  intro j
  rw [wipe_get σ2 vs j, wipe_get σ vs j]
  have hl : σ2.length = σ.length := h.1.trans (wipe_length σ vs)
  by_cases hj : j ∈ vs
  · rw [if_pos hj, if_pos hj]
    by_cases hlt : j < σ.length
    · rw [List.getElem?_eq_getElem hlt, List.getElem?_eq_getElem (by omega)]; rfl
    · rw [List.getElem?_eq_none (by omega), List.getElem?_eq_none (by omega)]
  · rw [if_neg hj, if_neg hj, h.2 j (fun z => hj (hs j z)), wipe_get σ vs j, if_neg hj]
def wipeA (sl : List (Option AVal)) : List Nat → List (Option AVal)
  | [] => sl
  | v :: vs => (wipeA sl vs).set v none
theorem wipeA_length (sl : List (Option AVal)) : ∀ vs : List Nat, (wipeA sl vs).length = sl.length
  | [] => rfl
  | v :: vs => by simp [wipeA, wipeA_length sl vs]
theorem wipeA_get {sl : List (Option AVal)} : ∀ {vs : List Nat} {j : Nat} {x : AVal}, (wipeA sl vs)[j]? = some (some x) → sl[j]? = some (some x) ∧ j ∉ vs
  | [], j, x, h => ⟨h, (fun z => nomatch z)⟩
  | v :: vs, j, x, h => by
    have h' : ((wipeA sl vs).set v none)[j]? = some (some x) := h
    by_cases hj : j = v
    · subst hj
      rw [List.getElem?_set] at h'
      simp at h'
    · rw [List.getElem?_set_ne (fun z => hj z.symm)] at h'
      obtain ⟨h1, h2⟩ := wipeA_get h'
      exact ⟨h1, fun z => by
        rcases List.mem_cons.mp z with z | z
        · exact hj z
        · exact h2 z⟩
theorem Rl.wipe {B : Bs} {ad : List Addr} {F H : Hp} {sl : List (Option AVal)} {cs : List Cell} {σ : St} (r : Rl B ad F H ⟨sl, cs⟩ σ) (vs : List Nat) : Rl B ad F H ⟨wipeA sl vs, cs⟩ (wipe σ vs) :=
  ⟨r.ff, r.fh, r.hh, r.al, r.new, r.pre, r.nd, r.len, r.cel, by show (wipeA sl vs).length = _; rw [wipeA_length, wipe_length]; exact r.sln, fun j x h => by
    obtain ⟨h1, h2⟩ := wipeA_get h
    obtain ⟨v, h3, h4⟩ := r.slt j x h1
    exact ⟨v, by rw [wipe_get, if_neg h2]; exact h3, h4⟩, r.inn⟩
/-! ## targets -/
structure GT (X : Cx) (tg : Expr) (ks : List Nat) (t : TGA) : Prop where
  run : ∀ B ad F H s σ x v Q, Rl B ad F H s σ → VOk ad F x v → t x s Q → WG X tg v σ H fun σ2 H2 => H2 = H ∧ Keeps ks σ σ2 ∧ ∃ s2, Rl B ad F H s2 σ2 ∧ Q s2
def nameG (k : Nat) : TGA := fun x s Q => Q ⟨s.sl.set k (some x), s.cs⟩
def tupOf (s : AS) : AVal → Option (List AVal)
  | .d (.tuple ds) => some (ds.map .d)
  | .d (.list ds) => some (ds.map .d)
  | .r n => match s.cs[n]? with
    | some (.nt xs) => some xs
    | some (.nl xs) => some xs
    | some (.lst ds) => some (ds.map .d)
    | some (.fz (.tuple ds)) => some (ds.map .d)
    | some (.fz (.list ds)) => some (ds.map .d)
    | _ => none
  | _ => none
section
variable {X : Cx} {tg t1 t2 t3 : Expr} {ks ks1 ks2 ks3 : List Nat} {g1 g2 g3 : TGA} {pos : Pos}
theorem WG.mono2 {v : V} {σ : St} {H : Hp} {Q Q' : St → Hp → Prop} (h : WG X tg v σ H Q) (k : ∀ σ' H', Q σ' H' → Q' σ' H') : WG X tg v σ H Q' := WG.mono k h
theorem gt_name (k : Nat) {x : Str} (hN : X.N.Nodup) (hi : X.N[k]? = some x := by rfl) (hx : Loc X.env.scope x := by first | exact .inl rfl | exact .inr rfl) (hf : X.fn x = true ∨ X.env.scope.names.lookup x = some .local := by first | exact .inl rfl | exact .inr rfl) : GT X (.Name x pos) [k] (nameG k) :=
  ⟨fun B ad F H s σ x v Q r hv t => wg_name k hN ⟨rfl, Keeps.set _ _ _, _, r.set hv, t⟩ hi hx hf⟩
theorem pairedD {ad : List Addr} {F : Hp} : ∀ {ds : List PyData} {vs : List V}, DaAll F ds vs → Paired (VOk ad F) (ds.map .d) vs
  | [], _, h => by obtain rfl := (show _ = [] from h); exact .nil
  | d :: ds, _, h => by
    obtain ⟨v, r, rfl, h1, h2⟩ := (show ∃ v r, _ = v :: r ∧ Da F d v ∧ DaAll F ds r from h)
    exact .cons h1 (pairedD h2)
theorem VOk.tup {B : Bs} {ad : List Addr} {F H : Hp} {s : AS} {σ : St} {x : AVal} {v : V} {xs : List AVal} (r : Rl B ad F H s σ) (h : VOk ad F x v) (e : tupOf s x = some xs) : ∃ l vs, v = .ref l ∧ (H l = some (.tup vs) ∨ H l = some (.lst vs)) ∧ Paired (VOk ad F) xs vs := by
  unfold tupOf at e
  split at e
  · cases e
    obtain ⟨a, xs, rfl, h1, h2⟩ := h
    exact ⟨a, xs, rfl, .inl (r.fh _ _ h1), pairedD h2⟩
  · cases e
    obtain ⟨a, xs, rfl, h1, h2⟩ := h
    exact ⟨a, xs, rfl, .inr (r.fh _ _ h1), pairedD h2⟩
  · rename_i n
    obtain ⟨a, h1, rfl⟩ := h
    split at e
    · rename_i ds' hc
      cases e
      obtain ⟨_, _, vs, h2, h3⟩ := r.cel n a _ h1 hc
      exact ⟨a, vs, rfl, .inl h2, h3⟩
    · rename_i ds' hc
      cases e
      obtain ⟨_, _, vs, h2, h3⟩ := r.cel n a _ h1 hc
      exact ⟨a, vs, rfl, .inr h2, h3⟩
    · rename_i ds' hc
      cases e
      obtain ⟨_, _, vs, h2, h3⟩ := r.cel n a _ h1 hc
      exact ⟨a, vs, rfl, .inr h2, pairedD h3⟩
    · rename_i ds' hc
      cases e
      obtain ⟨_, _, h4⟩ := r.cel n a _ h1 hc
      obtain ⟨a', xs, e', h2, h3⟩ := h4
      cases e'
      exact ⟨a, xs, rfl, .inl (r.fh _ _ h2), pairedD h3⟩
    · rename_i ds' hc
      cases e
      obtain ⟨_, _, h4⟩ := r.cel n a _ h1 hc
      obtain ⟨a', xs, e', h2, h3⟩ := h4
      cases e'
      exact ⟨a, xs, rfl, .inr (r.fh _ _ h2), pairedD h3⟩
    · cases e
  · cases e
theorem wg_unp {X : Cx} {es : List Expr} {k n : Nat} {t : TGs} {pos : Pos} {l : Addr} {vs : List V} {σ : St} {H : Hp} {Q : St → Hp → Prop} (hc : X.calm = true) (h : PGs X es t) (hn : (assignEach es X.env).length = n) (hst : (assignEach es X.env).findIdx? (·.1) = none) (hl : H l = some (.tup vs) ∨ H l = some (.lst vs)) (hv : vs.length = n) (q : t vs σ H Q) : WG X (.Tuple es k pos) (.ref l) σ H Q := by
  rcases hl with hl | hl
  · exact wg_of (pg_tup hc h hn hst) ⟨l, vs, rfl, SqT.of hl, hv, q⟩
  · exact wg_of (pg_lst hc h hn hst) ⟨l, vs, rfl, SqL.of hl, hv, q⟩
def tup2G (g1 g2 : TGA) : TGA := fun x s Q => onSome (tupOf s x) fun xs => match xs with
  | [x1, x2] => g1 x1 s fun s1 => g2 x2 s1 Q
  | _ => False
def tup3G (g1 g2 g3 : TGA) : TGA := fun x s Q => onSome (tupOf s x) fun xs => match xs with
  | [x1, x2, x3] => g1 x1 s fun s1 => g2 x2 s1 fun s2 => g3 x3 s2 Q
  | _ => False
theorem gt_tup2 {k : Nat} (hc : X.calm = true) (h1 : GT X t1 ks1 g1) (h2 : GT X t2 ks2 g2)
    (hs : (assignEach [t1, t2] X.env).map (·.2) = assign t1 X.env :: (assignEach [t2] X.env).map (·.2) := by rfl) (hs2 : (assignEach [t2] X.env).map (·.2) = assign t2 X.env :: (assignEach [] X.env).map (·.2) := by rfl)
    (hn : (assignEach [t1, t2] X.env).length = 2 := by rfl) (hst : (assignEach [t1, t2] X.env).findIdx? (·.1) = none := by rfl) : GT X (.Tuple [t1, t2] k pos) (ks1 ++ ks2) (tup2G g1 g2) := ⟨fun B ad F H s σ x v Q r hv t => by
  obtain ⟨xs, hx, t⟩ := t
  obtain ⟨l, vs, rfl, hl, hp⟩ := hv.tup r hx
  match xs, vs, hp, t with
  | [x1, x2], _, .cons (b := v1) p1 (.cons (b := v2) p2 .nil), t =>
    refine wg_unp hc (pgs_cons pg_wg (pgs_cons pg_wg pgs_nil hs2) hs) hn hst hl rfl ⟨v1, [v2], rfl, ?_⟩
    refine (h1.run B ad F H s σ x1 v1 _ r p1 t).mono2 ?_
    rintro σ1 H1 ⟨rfl, k1, s1, r1, t1⟩
    refine ⟨v2, [], rfl, (h2.run B ad F H1 s1 σ1 x2 v2 _ r1 p2 t1).mono2 ?_⟩
    rintro σ2 H2 ⟨rfl, k2, s2, r2, t2⟩
    exact ⟨rfl, rfl, k1.trans k2, s2, r2, t2⟩⟩
end
/-! ## statements -/
def nextA : TSA := fun D s => D.nx s
def seqA (t u : TSA) : TSA := fun D s => t { D with nx := u D } s
def setA (k : Nat) (te : TEA) : TSA := fun D s => te s fun x s1 => D.nx ⟨s1.sl.set k (some x), s1.cs⟩
def dropA (te : TEA) : TSA := fun D s => te s fun _ s1 => D.nx s1
def retA (te : TEA) : TSA := fun D s => te s D.rt
def retN : TSA := fun D s => D.rt (.d .none) s
def ifA (c : TTA) (t u : TSA) : TSA := fun D s => c s fun b s1 => if b = true then t D s1 else u D s1
def asgA (te : TEA) (g : TGA) : TSA := fun D s => te s fun x s1 => g x s1 D.nx
/-- fewer slots and cells are spoken of -/
def AVal.lt (n : Nat) : AVal → Prop
  | .r k => k < n
  | _ => True
def Cell.lt (n : Nat) : Cell → Prop
  | .nl xs => ∀ x ∈ xs, x.lt n
  | .nt xs => ∀ x ∈ xs, x.lt n
  | .nd kvs => ∀ p ∈ kvs, p.2.lt n
  | _ => True
structure Wk0 (m : Nat) (s s2 : AS) : Prop where
  ln : s2.sl.length = s.sl.length
  sl : ∀ (k : Nat) (x : AVal), s2.sl[k]? = some (some x) → s.sl[k]? = some (some x) ∧ x.lt s2.cs.length
  cs : ∃ more, s.cs = s2.cs ++ more
  lt : ∀ c ∈ s2.cs, c.lt s2.cs.length
  m : m ≤ s2.cs.length
theorem VOk.take {ad : List Addr} {F : Hp} {x : AVal} {v : V} {n : Nat} (h : VOk ad F x v) (hx : x.lt n) : VOk (ad.take n) F x v := by
  cases x with
  | d x => exact h
  | r k => obtain ⟨a, h1, h2⟩ := h; exact ⟨a, by rw [List.getElem?_take_of_lt hx]; exact h1, h2⟩
  | s K ns => exact h
  | a p k pt => exact h
theorem Paired.impMem {α β : Type} {R S : α → β → Prop} : ∀ {xs : List α} {ys : List β}, Paired R xs ys → (∀ x y, x ∈ xs → R x y → S x y) → Paired S xs ys
  | _, _, .nil, _ => .nil
  | _, _, .cons h t, k => .cons (k _ _ (List.mem_cons_self ..) h) (Paired.impMem t fun x y hx => k x y (List.mem_cons_of_mem _ hx))
theorem COk.take {ad : List Addr} {F H : Hp} {p : Addr} {c : Cell} {n : Nat} (h : COk ad F H p c) (hc : c.lt n) : COk (ad.take n) F H p c := by
  cases c with
  | nl xs => obtain ⟨vs, h1, h2⟩ := h; exact ⟨vs, h1, Paired.impMem h2 fun x y hx h => h.take (hc x hx)⟩
  | nt xs => obtain ⟨vs, h1, h2⟩ := h; exact ⟨vs, h1, Paired.impMem h2 fun x y hx h => h.take (hc x hx)⟩
  | nd xs => obtain ⟨vs, h1, h2⟩ := h; exact ⟨vs, h1, Paired.impMem h2 fun x y hx h => ⟨h.1, h.2.take (hc x hx)⟩⟩
  | _ => exact h
theorem Inn.take {B : Bs} {ad : List Addr} {F H : Hp} {cs cs2 more : List Cell} (r : Inn B ad F H cs) (e : cs = cs2 ++ more) : Inn B (ad.take cs2.length) F H cs2 := by
  subst e
  have sub : ∀ q, q ∈ cs2.flatMap Cell.ads → q ∈ (cs2 ++ more).flatMap Cell.ads := fun q hq => by rw [List.flatMap_append]; exact List.mem_append_left _ hq
  refine ⟨r.nd.sublist (by rw [List.flatMap_append]; exact List.sublist_append_left ..), fun q hq i hi => ?_, fun q hq => r.fr q (sub q hq), fun q hq => r.own q (sub q hq), r.old⟩
  have hl : i < cs2.length := by
    have := (List.getElem?_eq_some_iff.mp hi).1
    rw [List.length_take] at this
    omega
  rw [List.getElem?_take_of_lt hl] at hi
  have := r.off q (sub q hq) i hi
  rw [List.getElem?_append_left hl] at this
  exact this
theorem Rl.weak {B : Bs} {ad : List Addr} {F H : Hp} {s s2 : AS} {σ : St} (r : Rl B ad F H s σ) (w : Wk0 B.S.length s s2) : Rl B (ad.take s2.cs.length) F H s2 σ := by
  obtain ⟨more, em⟩ := w.cs
  have hle : s2.cs.length ≤ ad.length := by rw [r.len, em]; simp
  refine ⟨r.ff, r.fh, r.hh, r.al, r.new, ?_, r.nd.sublist (List.take_sublist _ _), by rw [List.length_take]; omega, fun i p c h1 h2 => ?_, w.ln.trans r.sln, fun k x h => ?_, r.inn.take em⟩
  · obtain ⟨ad', e, h1⟩ := r.pre
    refine ⟨ad'.take (s2.cs.length - B.S.length), ?_, fun b hb => h1 b (List.mem_of_mem_take hb)⟩
    rw [e, List.take_append, List.take_of_length_le w.m]
  · have hi : i < s2.cs.length := (List.getElem?_eq_some_iff.mp h2).1
    rw [List.getElem?_take_of_lt hi] at h1
    obtain ⟨n, l, ok⟩ := r.cel i p c h1 (by rw [em, List.getElem?_append_left hi]; exact h2)
    exact ⟨n, l, ok.take (w.lt c (List.mem_of_getElem? h2))⟩
  · obtain ⟨h1, h2⟩ := w.sl k x h
    obtain ⟨v, h3, h4⟩ := r.slt k x h1
    exact ⟨v, h3, h4.take h2⟩
def AVal.nor : AVal → Bool
  | .r _ => false
  | _ => true
theorem VOk.nor {ad ad' : List Addr} {F : Hp} {x : AVal} {v : V} (h : VOk ad F x v) (hx : x.nor = true) : VOk ad' F x v := by
  cases x with
  | r _ => cases hx
  | d _ => exact h
  | s _ _ => exact h
  | a _ _ _ => exact h
def Cell.flat : Cell → Bool
  | .nl xs => xs.all AVal.nor
  | .nt _ => false
  | .nd _ => false
  | .dl _ _ _ => false
  | _ => true
theorem COk.flat {ad ad' : List Addr} {F H : Hp} {p : Addr} {c : Cell} (h : COk ad F H p c) (hc : c.flat = true) : COk ad' F H p c := by
  cases c with
  | nl xs => obtain ⟨vs, h1, h2⟩ := h; exact ⟨vs, h1, Paired.impMem h2 fun x y hx h => h.nor (List.all_eq_true.mp hc x hx)⟩
  | nt _ => cases hc
  | nd _ => cases hc
  | _ => exact h
def subC (cs : List Cell) : List Nat → Option (List Cell)
  | [] => some []
  | n :: ns => (cs[n]?).bind fun c => (subC cs ns).map (c :: ·)
theorem subC_ok {cs : List Cell} : ∀ {ns : List Nat} {ds : List Cell}, subC cs ns = some ds → ds.length = ns.length ∧ ∀ (j : Nat) n, ns[j]? = some n → ds[j]? = cs[n]? ∧ n < cs.length
  | [], ds, h => by cases h; exact ⟨rfl, fun j n h => by simp at h⟩
  | n :: ns, ds, h => by
    have h' : (cs[n]?).bind (fun c => (subC cs ns).map (c :: ·)) = some ds := h
    cases hc : cs[n]? with
    | none => rw [hc] at h'; cases h'
    | some c =>
      rw [hc] at h'
      cases hs : subC cs ns with
      | none => rw [hs] at h'; cases h'
      | some es =>
        rw [hs] at h'
        cases h'
        obtain ⟨h1, h2⟩ := subC_ok hs
        refine ⟨by simp [h1], fun j m hj => ?_⟩
        cases j with
        | zero =>
          have : n = m := by simpa using hj
          subst this
          exact ⟨by simp [hc], (List.getElem?_eq_some_iff.mp hc).1⟩
        | succ j => simpa using h2 j m (by simpa using hj)
theorem sublist_flatMap {cs ds : List Cell} (h : cs.Sublist ds) : (cs.flatMap Cell.ads).Sublist (ds.flatMap Cell.ads) := by
  induction h with
  | slnil => exact List.Sublist.refl _
  | cons a h ih => rw [List.flatMap_cons]; exact ih.trans (List.sublist_append_right _ _)
  | cons_cons a h ih => rw [List.flatMap_cons, List.flatMap_cons]; exact List.Sublist.append (List.Sublist.refl _) ih
theorem flat_nd {cs : List Cell} : (cs.flatMap Cell.ads).Nodup ↔ (∀ (i : Nat) c, cs[i]? = some c → c.ads.Nodup) ∧ ∀ (i j : Nat) c d q, cs[i]? = some c → cs[j]? = some d → q ∈ c.ads → q ∈ d.ads → i = j := by
  rw [List.nodup_iff_pairwise_ne, List.pairwise_flatMap, List.pairwise_iff_getElem]
  constructor
  · rintro ⟨h1, h2⟩
    refine ⟨fun i c hc => List.nodup_iff_pairwise_ne.mpr (h1 c (List.mem_of_getElem? hc)), fun i j c d q hc hd hqc hqd => ?_⟩
    obtain ⟨li, ei⟩ := List.getElem?_eq_some_iff.mp hc
    obtain ⟨lj, ej⟩ := List.getElem?_eq_some_iff.mp hd
    rcases Nat.lt_trichotomy i j with h | h | h
    · exact absurd rfl (h2 i j li lj h q (by rw [ei]; exact hqc) q (by rw [ej]; exact hqd))
    · exact h
    · exact absurd rfl (h2 j i lj li h q (by rw [ej]; exact hqd) q (by rw [ei]; exact hqc))
  · rintro ⟨h1, h2⟩
    refine ⟨fun c hc => ?_, fun i j li lj hij x hx y hy e => ?_⟩
    · obtain ⟨i, hi⟩ := List.mem_iff_getElem?.mp hc
      exact List.nodup_iff_pairwise_ne.mp (h1 i c hi)
    · subst e
      have := h2 i j _ _ x (List.getElem?_eq_getElem li) (List.getElem?_eq_getElem lj) hx hy
      omega
/-- cells taken out, the first ones in their place -/
def partQ (m : Nat) (ns : List Nat) : AVal → AVal
  | .r n => if n < m then .r n else .r (m + ns.idxOf n)
  | .a p n pt => if n < m then .a p n pt else .a p (m + ns.idxOf n) pt
  | x => x
def hasR (m : Nat) (ns : List Nat) : AVal → Prop
  | .r n => n < m ∨ n ∈ ns
  | _ => True
structure Wq (m : Nat) (s s2 : AS) : Prop where
  ln : s2.sl.length = s.sl.length
  mm : m ≤ s.cs.length
  pk : ∃ ns new, ns.Nodup ∧ (∀ n ∈ ns, m ≤ n) ∧ subC s.cs ns = some new ∧ s2.cs = s.cs.take m ++ new ∧ (∀ c ∈ s2.cs, c.flat = true) ∧ ∀ (k : Nat) (x : AVal), s2.sl[k]? = some (some x) → ∃ y, s.sl[k]? = some (some y) ∧ x = partQ m ns y ∧ hasR m ns y
theorem Rl.pick {B : Bs} {ad : List Addr} {F H : Hp} {s s2 : AS} {σ : St} (r : Rl B ad F H s σ) (w : Wq B.S.length s s2) : ∃ ad', Rl B ad' F H s2 σ := by
  obtain ⟨hln, hmm, ns, new, nd, hn, hs, ecs, hf, hsl⟩ := w
  obtain ⟨sl2, cs2⟩ := s2
  simp only at ecs
  subst ecs
  obtain ⟨h1, h2⟩ := subC_ok hs
  obtain ⟨n1, n2⟩ := flat_nd.mp r.inn.nd
  obtain ⟨ad', e, hpre⟩ := r.pre
  have hl : B.S.length ≤ s.cs.length := hmm
  have ex0 : ∀ ms : List Nat, (∀ n ∈ ms, n < ad.length) → ∃ ex : List Addr, ex.length = ms.length ∧ ∀ (j : Nat) n, ms[j]? = some n → ex[j]? = ad[n]? := by
    intro ms
    induction ms with
    | nil => intro _; exact ⟨[], rfl, fun j n h => by simp at h⟩
    | cons m ms ih =>
      intro h
      obtain ⟨a', l', e'⟩ := ih fun n hn => h n (List.mem_cons_of_mem _ hn)
      have hm := h m (List.mem_cons_self ..)
      refine ⟨ad[m] :: a', by simp [l'], fun j n hj => ?_⟩
      cases j with
      | zero =>
        have : m = n := by simpa using hj
        subst this
        simp [List.getElem?_eq_getElem hm]
      | succ j => simpa using e' j n (by simpa using hj)
  have hlt : ∀ n ∈ ns, n < ad.length := fun n hn => by
    obtain ⟨j, hj⟩ := List.mem_iff_getElem?.mp hn
    rw [r.len]; exact (h2 j n hj).2
  obtain ⟨ex, lx, hx⟩ := ex0 ns hlt
  refine ⟨B.S ++ ex, ?_⟩
  have from' : ∀ i, i < B.S.length + ns.length → ∃ i', (B.S ++ ex)[i]? = ad[i']? ∧ (s.cs.take B.S.length ++ new)[i]? = s.cs[i']? ∧ ((i < B.S.length ∧ i' = i) ∨ (B.S.length ≤ i ∧ ns[i - B.S.length]? = some i')) := by
    intro i hi
    by_cases him : i < B.S.length
    · refine ⟨i, ?_, ?_, .inl ⟨him, rfl⟩⟩
      · rw [List.getElem?_append_left him, e, List.getElem?_append_left him]
      · rw [List.getElem?_append_left (by rw [List.length_take]; omega), List.getElem?_take_of_lt him]
    · have hj : ns[i - B.S.length]? = some (ns[i - B.S.length]'(by omega)) := List.getElem?_eq_getElem (by omega)
      refine ⟨_, ?_, ?_, .inr ⟨by omega, hj⟩⟩
      · rw [List.getElem?_append_right (by omega), hx _ _ hj]
      · rw [List.getElem?_append_right (by rw [List.length_take]; omega), List.length_take, Nat.min_eq_left hl, (h2 _ _ hj).1]
  have inj : ∀ i j i', ((i < B.S.length ∧ i' = i) ∨ (B.S.length ≤ i ∧ ns[i - B.S.length]? = some i')) → ((j < B.S.length ∧ i' = j) ∨ (B.S.length ≤ j ∧ ns[j - B.S.length]? = some i')) → i = j := by
    intro i j i' h h'
    rcases h with ⟨h, e1⟩ | ⟨h, e1⟩ <;> rcases h' with ⟨h', e2⟩ | ⟨h', e2⟩
    · omega
    · have := hn i' (List.mem_of_getElem? e2); omega
    · have := hn i' (List.mem_of_getElem? e1); omega
    · have := (List.getElem?_inj (List.getElem?_eq_some_iff.mp e1).1 nd).mp (e1.trans e2.symm)
      omega
  have lenC : (s.cs.take B.S.length ++ new).length = B.S.length + ns.length := by rw [List.length_append, List.length_take, h1]; omega
  have lenA : (B.S ++ ex).length = B.S.length + ns.length := by rw [List.length_append, lx]
  have look : ∀ (i : Nat) c, (s.cs.take B.S.length ++ new)[i]? = some c → ∃ i', (B.S ++ ex)[i]? = ad[i']? ∧ s.cs[i']? = some c ∧ ((i < B.S.length ∧ i' = i) ∨ (B.S.length ≤ i ∧ ns[i - B.S.length]? = some i')) := fun i c hc => by
    have hi := (List.getElem?_eq_some_iff.mp hc).1
    obtain ⟨i', e1, e2, e3⟩ := from' i (by omega)
    exact ⟨i', e1, by rw [← e2]; exact hc, e3⟩
  have up : ∀ q, q ∈ (s.cs.take B.S.length ++ new).flatMap Cell.ads → q ∈ s.cs.flatMap Cell.ads := fun q hq => by
    obtain ⟨c, hc, hq⟩ := List.mem_flatMap.mp hq
    obtain ⟨i, hi⟩ := List.mem_iff_getElem?.mp hc
    obtain ⟨i', _, e2, _⟩ := look i c hi
    exact mem_ads e2 hq
  refine ⟨r.ff, r.fh, r.hh, r.al, r.new, ⟨ex, rfl, fun b hb => ?_⟩, ?_, by rw [lenA]; exact lenC.symm, fun i p c h3 h4 => ?_, hln.trans r.sln, fun k x h => ?_, ⟨flat_nd.mpr ⟨fun i c hc => ?_, fun i j c d q hc hd hqc hqd => ?_⟩, fun q hq i hi => ?_, fun q hq => r.inn.fr q (up q hq), fun q hq => r.inn.own q (up q hq), r.inn.old⟩⟩
  · obtain ⟨j, hj⟩ := List.mem_iff_getElem?.mp hb
    have hjl := (List.getElem?_eq_some_iff.mp hj).1
    have hj2 : ns[j]? = some (ns[j]'(by omega)) := List.getElem?_eq_getElem (by omega)
    rw [hx j _ hj2, e, List.getElem?_append_right (hn _ (List.mem_of_getElem? hj2))] at hj
    exact hpre b (List.mem_of_getElem? hj)
  · rw [List.nodup_iff_pairwise_ne, List.pairwise_iff_getElem]
    intro i j hi hj hij ee
    obtain ⟨i', a1, _, a3⟩ := from' i (by omega)
    obtain ⟨j', b1, _, b3⟩ := from' j (by omega)
    have g1 : ad[i']? = some (B.S ++ ex)[i] := by rw [← a1]; exact List.getElem?_eq_getElem hi
    have g2 : ad[j']? = some (B.S ++ ex)[i] := by rw [← b1, ee]; exact List.getElem?_eq_getElem hj
    have := nodup_get r.nd g1 g2
    subst this
    have := inj i j i' a3 b3
    omega
  · have h4 : (s.cs.take B.S.length ++ new)[i]? = some c := h4
    obtain ⟨i', e1, e2, _⟩ := look i c h4
    rw [e1] at h3
    obtain ⟨g1, g2, g3⟩ := r.cel i' p c h3 e2
    exact ⟨g1, g2, g3.flat (hf c (List.mem_of_getElem? h4))⟩
  · obtain ⟨y, hy, ex', hr⟩ := hsl k x h
    obtain ⟨v, hv, ok⟩ := r.slt k y hy
    refine ⟨v, hv, ?_⟩
    subst ex'
    cases y with
    | d y => exact ok
    | s _ _ => exact ok
    | a p n pt =>
      show VOk (B.S ++ ex) F (if n < B.S.length then .a p n pt else .a p (B.S.length + ns.idxOf n) pt) v
      split <;> exact ok
    | r n =>
      obtain ⟨a, g1, g2⟩ := ok
      show VOk (B.S ++ ex) F (if n < B.S.length then .r n else .r (B.S.length + ns.idxOf n)) v
      split
      · rename_i hlt
        refine ⟨a, ?_, g2⟩
        rw [e, List.getElem?_append_left hlt] at g1
        rw [List.getElem?_append_left hlt]; exact g1
      · rename_i hlt
        have hmem : n ∈ ns := hr.resolve_left hlt
        have hil := List.idxOf_lt_length_of_mem hmem
        have e2 : ns[ns.idxOf n]? = some n := by rw [List.getElem?_eq_getElem hil, List.getElem_idxOf]
        refine ⟨a, ?_, g2⟩
        rw [List.getElem?_append_right (by omega), Nat.add_sub_cancel_left, hx _ n e2]
        exact g1
  · obtain ⟨i', _, e2, _⟩ := look i c hc
    exact n1 i' c e2
  · obtain ⟨i', _, e2, e3⟩ := look i c hc
    obtain ⟨j', _, f2, f3⟩ := look j d hd
    have := n2 i' j' c d q e2 f2 hqc hqd
    subst this
    exact inj i j i' e3 f3
  · have hil := (List.getElem?_eq_some_iff.mp hi).1
    obtain ⟨i', e1, e2, _⟩ := from' i (by omega)
    rw [e1] at hi
    have := r.inn.off q (up q hq) i' hi
    rw [← e2] at this
    exact this
def Wk (m : Nat) (s s2 : AS) : Prop := Wk0 m s s2 ∨ Wq m s s2
theorem Rl.weakX {B : Bs} {ad : List Addr} {F H : Hp} {s s2 : AS} {σ : St} (r : Rl B ad F H s σ) (w : Wk B.S.length s s2) : ∃ ad', Rl B ad' F H s2 σ := w.elim (fun w => ⟨_, r.weak w⟩) r.pick
section
variable {X : Cx} {B : Bs} {st : Stmt} {rest body orelse : List Stmt} {t u : TSA} {e c : Expr} {te : TEA} {tx : TTA} {pos p : Pos} {x : Str} {g : TGA} {ks : List Nat} {tg : Expr}
theorem ss_nilA : SS X B [] nextA := ⟨fun D s h ad F H σ r => ss_nil ⟨ad, F, s, r, h⟩⟩
theorem ss_consA (h1 : SA X B st t) (h2 : SS X B rest u) : SS X B (st :: rest) (seqA t u) := ⟨fun D s h ad F H σ r => ss_cons (WS.nx (D := liftD B D) (M := fun σ H => ∃ ad F s, Rl B ad F H s σ ∧ u D s) (h1.run { D with nx := u D } s h ad F H σ r) fun σ' H' ⟨ad', F', s', r', h'⟩ => h2.run D s' h' ad' F' H' σ' r')⟩
theorem ss_oneA (h1 : SA X B st t) : SS X B [st] t := ⟨fun D s h ad F H σ r => ss_one (h1.run D s h ad F H σ r)⟩
theorem sa_set (k : Nat) (hN : X.N.Nodup) (he : EA X B e te) (hs : swapsWith e (some (.Name x p)) pos.line X.env = pure false := by rfl) (hi : X.N[k]? = some x := by rfl) (hx : Loc X.env.scope x := by first | exact .inl rfl | exact .inr rfl)
    (hf : X.fn x = true ∨ X.env.scope.names.lookup x = some .local := by first | exact .inl rfl | exact .inr rfl) : SA X B (.Assign [.Name x p] e pos) (setA k te) := ⟨fun D s h ad F H σ r => ws_set k hN ((he.run ad F H s σ _ r h).imp fun v H1 q => by
  obtain ⟨ad1, F1, y, s1, e1, k1, r1, hv, q⟩ := q
  exact ⟨ad1, F1, _, r1.set hv, q⟩) hs hi hx hf⟩
theorem sa_expr (he : EA X B e te) (hs : swapsWith e none pos.line X.env = pure false := by rfl) : SA X B (.Expr e pos) (dropA te) := ⟨fun D s h ad F H σ r => ws_expr ((he.run ad F H s σ _ r h).imp fun v H1 q => by
  obtain ⟨ad1, F1, y, s1, e1, k1, r1, hv, q⟩ := q
  exact ⟨ad1, F1, s1, r1, q⟩) hs⟩
theorem sa_ret (he : EA X B e te) : SA X B (.Return (some e) pos) (retA te) := ⟨fun D s h ad F H σ r => ws_ret ((he.run ad F H s σ _ r h).imp fun v H1 q => by
  obtain ⟨ad1, F1, y, s1, e1, k1, r1, hv, q⟩ := q
  exact ⟨ad1, F1, y, s1, σ, r1, hv, q⟩)⟩
theorem sa_if (hc : ET X B c tx) (h1 : SS X B body t) (h2 : SS X B orelse u) : SA X B (.If c body orelse pos) (ifA tx t u) := ⟨fun D s h ad F H σ r => ws_if ((hc.run ad F H s σ _ r h).imp fun b H1 q => by
  obtain ⟨ad1, F1, s1, e1, k1, r1, q⟩ := q
  cases b with
  | true => rw [if_pos rfl] at q; exact iteT (h1.run D s1 q ad1 F1 H1 σ r1)
  | false => exact iteF (h2.run D s1 q ad1 F1 H1 σ r1))⟩
/-- while -/
def whileA (m : Nat) (c : TTA) (t : TSA) : TSA := fun D s => ∃ W : Nat → AS → Prop, (∃ n, W n s) ∧ ∀ n s, W n s → c s fun b s1 => if b = true then t ⟨fun s2 => ∃ s3 n', Wk m s2 s3 ∧ n' < n ∧ W n' s3, D.rt, D.nx, fun s2 => ∃ s3 n', Wk m s2 s3 ∧ n' < n ∧ W n' s3⟩ s1 else D.nx s1
theorem sa_while (hp : PassesOwn (model X.prog X.w) X.A X.env X.xe) (hc : ET X B c tx) (hb : SS X B body t) : SA X B (.While c body [] pos) (whileA B.S.length tx t) := ⟨fun D s h ad F H σ r => by
  obtain ⟨W, ⟨n0, h0⟩, hs⟩ := h
  refine ws_while hp (fun n σ H => ∃ ad F s, Rl B ad F H s σ ∧ W n s) n0 ⟨ad, F, s, r, h0⟩ ?_
  rintro n σ' H' ⟨ad', F', s', r', w'⟩
  refine (hc.run ad' F' H' s' σ' _ r' (hs n s' w')).imp fun b H1 q => ?_
  obtain ⟨ad1, F1, s1, e1, k1, r1, q⟩ := q
  cases b with
  | true =>
    rw [if_pos rfl] at q
    refine iteT ?_
    intro pins sh I
    refine thn (hb.run _ s1 q ad1 F1 H1 σ' r1 pins sh I) fun f s2 z => ?_
    cases f with
    | next =>
      obtain ⟨σ2, H2, I2, ad2, F2, s2, r2, s3, n', wk, hn, w3⟩ := z
      obtain ⟨ad9, r9⟩ := r2.weakX wk
      exact ⟨σ2, H2, I2, n', hn, ad9, F2, s3, r9, w3⟩
    | brk => exact z
    | cont =>
      obtain ⟨σ2, H2, I2, ad2, F2, s2, r2, s3, n', wk, hn, w3⟩ := z
      obtain ⟨ad9, r9⟩ := r2.weakX wk
      exact ⟨σ2, H2, I2, n', hn, ad9, F2, s3, r9, w3⟩
    | ret u => exact z
  | false => exact iteF ⟨ad1, F1, s1, r1, q⟩⟩
end
/-! ## what is walked -/
structure IA (X : Cx) (B : Bs) (tg iter : Expr) (t : AS → (List PyData → AS → Prop) → Prop) : Prop where
  run : ∀ ad F H s σ (Q : List PyData → AS → Prop) (R : It → Hp → Prop), Rl B ad F H s σ → t s Q → (∀ J ad2 F2 H2 s2 ds, Ext ad ad2 → Same F F2 → Rl B ad2 F2 H2 s2 σ → Walks J F2 ds → ds.length ≤ sizeLine → Q ds s2 → R J H2) → WI X tg iter σ H R
/-- F may be the floor of a loop's body -/
structure Fl (B : Bs) (F : Hp) : Prop where
  ff : Same B.F0 F
  new : ∀ b, B.F0 b = none → B.H0 b ≠ none → F b = none
theorem Rl.flr {B : Bs} {ad : List Addr} {F H : Hp} {s : AS} {σ : St} (r : Rl B ad F H s σ) : Fl B F := ⟨r.ff, r.new⟩
def forW (m : Nat) (g : TGA) (t : TSA) (D : DA) : List PyData → AS → Prop
  | [], s => D.nx s
  | x :: xs, s => g (.d x) s fun s1 => t ⟨fun s2 => ∃ s3, Wk m s2 s3 ∧ forW m g t D xs s3, D.rt, D.nx, fun s2 => ∃ s3, Wk m s2 s3 ∧ forW m g t D xs s3⟩ s1
def forA (m : Nat) (ti : AS → (List PyData → AS → Prop) → Prop) (g : TGA) (t : TSA) : TSA := fun D s => ti s fun ds s1 => forW m g t D ds s1
section
variable {X : Cx} {B : Bs} {tg iter : Expr} {body : List Stmt} {t : TSA} {ti : AS → (List PyData → AS → Prop) → Prop} {g : TGA} {ks : List Nat} {pos : Pos}
theorem drop_get {α : Type} {l : List α} {i : Nat} {x : α} (h : l[i]? = some x) : l.drop i = x :: l.drop (i + 1) := by
  obtain ⟨hl, e⟩ := List.getElem?_eq_some_iff.mp h
  rw [List.drop_eq_getElem_cons hl, e]
theorem sa_for (hp : PassesOwn (model X.prog X.w) X.A X.env X.xe) (hc : X.calm = true) (hi : IA X B tg iter ti) (hg : GT X tg ks g) (hb : ∀ F, Fl B F → SS X (B.fl F) body t) (hs : ∀ x, foldedSetIterable iter X.env x = pure x := by intro _; rfl) :
    SA X B (.For tg iter body [] pos) (forA B.S.length ti g t) := ⟨fun D s h ad F H σ r => ws_of (ps_for hp hc pi_wi pg_wg pss_wss hs) (hi.run ad F H s σ _ _ r h fun J ad2 F2 H2 s2 ds e2 k2 r2 w hz q => by
  refine ⟨fun i m σ' H' => m = ds.length - i ∧ i ≤ ds.length ∧ ∃ ad' F' s', Same F2 F' ∧ Rl B ad' F' H' s' σ' ∧ forW B.S.length g t D (ds.drop i) s', ⟨ds.length, by simp, Nat.zero_le _, ad2, F2, s2, Same.refl _, r2, q⟩, ?_⟩
  rintro i m σ' H' ⟨rfl, hi', ad', F', s', s1, r', q'⟩
  obtain ⟨w1, w2⟩ := w F' H' s1 r'.fh
  by_cases hlt : i < ds.length
  · have e : ds[i]? = some ds[i] := List.getElem?_eq_getElem hlt
    obtain ⟨go, yl⟩ := w1 i _ e
    rw [drop_get e] at q'
    refine .inr ⟨go, fun σ3 H3 => ∃ ad3 F3 s3, Same F2 F3 ∧ Rl B ad3 F3 H3 s3 σ3 ∧ forW B.S.length g t D (ds.drop (i + 1)) s3, fun σ3 H3 p' => ⟨ds.length - (i + 1), by omega, rfl, hlt, p'⟩, fun x H4 y => ?_⟩
    obtain ⟨F4, g4, hd⟩ := yl x H4 y
    have r4 := r'.gr g4
    refine (hg.run B ad' F4 H4 s' σ' (.d ds[i]) x _ r4 hd q').mono2 ?_
    rintro σ5 H5 ⟨rfl, k5, s5, r5, q5⟩
    intro pins sh I
    refine thn ((hb F4 r5.flr).run _ s5 q5 ad' F4 H5 σ5 r5.floor pins sh I) fun f s6 z => ?_
    cases f with
    | next =>
      obtain ⟨σ2, H2, I2, ad2, F2', s2, r2', s3, wk, w3⟩ := z
      obtain ⟨ad9, r9⟩ := (r5.unfloor r2').weakX wk
      exact ⟨σ2, H2, I2, ad9, F2', s3, s1.trans (g4.ff.trans r2'.ff), r9, w3⟩
    | brk =>
      obtain ⟨σ2, H2, I2, ad2, F2', s2, r2', w3⟩ := z
      exact ⟨σ2, H2, I2, ad2, F2', s2, r5.unfloor r2', w3⟩
    | cont =>
      obtain ⟨σ2, H2, I2, ad2, F2', s2, r2', s3, wk, w3⟩ := z
      obtain ⟨ad9, r9⟩ := (r5.unfloor r2').weakX wk
      exact ⟨σ2, H2, I2, ad9, F2', s3, s1.trans (g4.ff.trans r2'.ff), r9, w3⟩
    | ret u =>
      obtain ⟨v, σ2, H2, I2, rv, ad2, F2', x2, s2, σ3, r2', hv, w3⟩ := z
      exact ⟨v, σ2, H2, I2, rv, ad2, F2', x2, s2, σ3, r5.unfloor r2', hv, w3⟩
  · have e : i = ds.length := by omega
    subst e
    rw [List.drop_length] at q'
    exact .inl ⟨w2, ad', F', s', r', q'⟩)⟩
end
end Kr
/-! layer A4 -/
namespace Kr
open PySem L2
section
variable {B : Bs} {ad : List Addr} {F H : Hp} {s : AS} {σ : St} {D : Addr} {o : HO}
/-- a thing aside changes, or goes -/
theorem Rl.aput (r : Rl B ad F H s σ) (h1 : D ∉ ad) (h2 : F D = none) (h3 : B.H0 D = none) (h4 : D ∉ s.cs.flatMap Cell.ads) (h5 : D ∉ B.T) : Rl B ad F (upd H D o) s σ := by
  have hS : D ∉ B.S := fun z => h1 (let ⟨ad', e, _⟩ := r.pre; e ▸ List.mem_append_left _ z)
  have hq : ∀ q, q ∈ s.cs.flatMap Cell.ads → q ≠ D := fun q hq z => h4 (z ▸ hq)
  refine ⟨r.ff, same_mut r.fh h2, fun b u hb ht e => ?_, fun b hb => ?_, r.new, r.pre, r.nd, r.len, fun i p c e1 e2 => ?_, r.sln, r.slt, ⟨r.inn.nd, r.inn.off, fun q h => ⟨(r.inn.fr q h).1, by rw [upd_ne (hq q h)]; exact (r.inn.fr q h).2⟩, r.inn.own, r.inn.old⟩⟩
  · rw [upd_ne (ne_of_none e h3)]; exact r.hh b u hb ht e
  · rw [upd_ne (fun z => by subst z; exact hb.elim hS h5)]; exact r.al b hb
  · have hp : p ≠ D := fun z => h1 (z ▸ List.mem_of_getElem? e1)
    obtain ⟨n, l, ok⟩ := r.cel i p c e1 e2
    exact ⟨by rw [upd_ne hp]; exact n, l, ok.mono (Ext.refl _) (Same.refl _) (fun o' e => by rw [upd_ne hp]; exact e) fun q h o' e => by rw [upd_ne (hq q (mem_ads e2 h))]; exact e⟩
def out (H : Hp) (D : Addr) : Hp := fun b => if b = D then none else H b
theorem out_ne {b : Addr} (h : b ≠ D) : out H D b = H b := if_neg h
theorem out_same : out H D D = none := if_pos rfl
theorem upd_out (h : H D = some o) : upd (out H D) D o = H := by
  funext b
  by_cases hb : b = D
  · subst hb; rw [upd_same, h]
  · rw [upd_ne hb, out_ne hb]
theorem Rl.aout (r : Rl B ad F H s σ) (h1 : D ∉ ad) (h2 : F D = none) (h3 : B.H0 D = none) (h4 : D ∉ s.cs.flatMap Cell.ads) (h5 : D ∉ B.T) : Rl B ad F (out H D) s σ := by
  have hS : D ∉ B.S := fun z => h1 (let ⟨ad', e, _⟩ := r.pre; e ▸ List.mem_append_left _ z)
  have hq : ∀ q, q ∈ s.cs.flatMap Cell.ads → q ≠ D := fun q hq z => h4 (z ▸ hq)
  refine ⟨r.ff, fun b o e => ?_, fun b u hb ht e => ?_, fun b hb => ?_, r.new, r.pre, r.nd, r.len, fun i p c e1 e2 => ?_, r.sln, r.slt, ⟨r.inn.nd, r.inn.off, fun q h => ⟨(r.inn.fr q h).1, by rw [out_ne (hq q h)]; exact (r.inn.fr q h).2⟩, r.inn.own, r.inn.old⟩⟩
  · rw [out_ne (ne_of_none e h2)]; exact r.fh b o e
  · rw [out_ne (ne_of_none e h3)]; exact r.hh b u hb ht e
  · rw [out_ne (fun z => by subst z; exact hb.elim hS h5)]; exact r.al b hb
  · have hp : p ≠ D := fun z => h1 (z ▸ List.mem_of_getElem? e1)
    obtain ⟨n, l, ok⟩ := r.cel i p c e1 e2
    exact ⟨by rw [out_ne hp]; exact n, l, ok.mono (Ext.refl _) (Same.refl _) (fun o' e => by rw [out_ne hp]; exact e) fun q h o' e => by rw [out_ne (hq q (mem_ads e2 h))]; exact e⟩
end
/-! ## comprehensions -/
def AVal.data? : AVal → Option PyData | .d x => some x | _ => none
theorem AVal.data?_of {x : AVal} {d : PyData} (h : x.data? = some d) : x = .d d := by
  cases x with
  | d y => cases h; rfl
  | r n => cases h
  | s _ _ => cases h
  | a _ _ _ => cases h
theorem AVal.data?_d {d : PyData} : (AVal.d d).data? = some d := rfl
abbrev TIO := AS → (List PyData → (List Cell → Prop) → AS → Prop) → Prop
def lcW (g : TGA) (tt : TTA) (te : TEA) (vs : List Nat) (ok : List Cell → Prop) (sl : List (Option AVal)) : List PyData → List PyData → List Cell → (List PyData → List Cell → Prop) → Prop
  | [], acc, cs, Q => ok cs ∧ Q acc cs
  | x :: xs, acc, cs, Q => ok cs ∧ g (.d x) ⟨wipeA sl vs, cs⟩ fun s1 => tt s1 fun b s2 => if b = true then te s2 fun y s3 => onSome y.data? fun d => lcW g tt te vs ok sl xs (acc ++ [d]) s3.cs Q else lcW g tt te vs ok sl xs acc s2.cs Q
def yesA : TTA := fun s Q => Q true s
def lcN (ti : TIO) (g : TGA) (tt : TTA) (te : TEA) (vs : List Nat) : TNA := fun s Q => ti s fun ds ok s1 => lcW g tt te vs ok s1.sl ds [] s1.cs fun acc cs => Q (.lst acc) ⟨s1.sl, cs⟩
/-- what is walked may be a list of our own that stands still -/
def WalksO (J : It) (ad2 : List Addr) (F2 : Hp) (ds : List PyData) (ok : List Cell → Prop) : Prop := ∀ (B3 : Bs) (ad3 : List Addr) (F3 H3 : Hp) (s3 : AS) (σ3 : St), Ext ad2 ad3 → Same F2 F3 → Rl B3 ad3 F3 H3 s3 σ3 → ok s3.cs →
  (∀ (i : Nat) d, ds[i]? = some d → J.go i H3 ∧ ∀ x H4, J.yld i H3 x H4 → ∃ F4, Gr F3 H3 F4 H4 ∧ Da F4 d x) ∧ J.stop ds.length H3
structure IO (X : Cx) (B : Bs) (tg iter : Expr) (t : TIO) : Prop where
  run : ∀ ad F H s σ Q (R : It → Hp → Prop), Rl B ad F H s σ → t s Q → (∀ J ad2 F2 H2 s2 ds ok, Ext ad ad2 → Same F F2 → Rl B ad2 F2 H2 s2 σ → WalksO J ad2 F2 ds ok → ds.length ≤ sizeLine → Q ds ok s2 → R J H2) → WI X tg iter σ H R
def ioT (t : AS → (List PyData → AS → Prop) → Prop) : TIO := fun s Q => t s fun ds s1 => Q ds (fun _ => True) s1
theorem IO.of {X : Cx} {B : Bs} {tg iter : Expr} {t : AS → (List PyData → AS → Prop) → Prop} (h : IA X B tg iter t) : IO X B tg iter (ioT t) := ⟨fun ad F H s σ Q R r ht k => h.run ad F H s σ _ R r ht fun J ad2 F2 H2 s2 ds e2 k2 r2 w hz q => k J ad2 F2 H2 s2 ds _ e2 k2 r2 (fun B3 ad3 F3 H3 s3 σ3 _ k3 r3 _ => w F3 H3 k3 r3.fh) hz q⟩
section
variable {X : Cx} {B : Bs} {σ : St} {F H : Hp} {elt tg iter c : Expr} {scope : Scope} {pos spos py : Pos} {own : List (Str × Nat)} {y : Str} {ti : TIO} {g : TGA} {tt : TTA} {te : TEA} {ks vs : List Nat}
theorem lc_coreB {T : TT} (hg : ∀ s H0 C cl fp, GT (Blk X scope s H0 C cl fp) tg ks g) (hk : ∀ k ∈ ks, k ∈ vs)
    (ht : ∀ B' ad F H s σ Q, Rl B' ad F H s σ → tt s Q → T σ H (PostT B' ad F σ Q)) (hT : ∀ σ H (Q Q' : Bool → Hp → Prop), T σ H Q → (∀ b H', Q b H' → Q' b H') → T σ H Q')
    (he : ∀ s H0 C cl fp B', EA (Blk X scope s H0 C cl fp) B' elt te) {ad : List Addr} {s : AS} {Q : Cell → AS → Prop} {K : VK}
    (hi : ∀ (Q : List PyData → (List Cell → Prop) → AS → Prop) (R : It → Hp → Prop), ti s Q → (∀ J ad2 F2 H2 s2 ds ok, Ext ad ad2 → Same F F2 → Rl B ad2 F2 H2 s2 σ → WalksO J ad2 F2 ds ok → ds.length ≤ sizeLine → Q ds ok s2 → R J H2) → WI X tg iter σ H R) (r : Rl B ad F H s σ) (t : lcN ti g tt te vs s Q) (hK : ∀ v H', PostN B ad F σ Q v H' → K v H') :
    tLc (WI X tg iter) (gB X scope tg) T (eB X scope elt) vs σ H K := by
  refine hi _ _ t fun J ad2 F2 H2 s2 ds ok e2 k2 r2 w hz q D hD => ?_
  obtain ⟨f1, f2, f3⟩ := r2.fresh hD
  have hF2 : F2 D = none := r2.fh.free hD
  refine ⟨fun i m H' => m = ds.length - i ∧ i ≤ ds.length ∧ ∃ ad' F' cs acc ys, Same F2 F' ∧ Ext ad2 ad' ∧ Rl B ad' F' H' ⟨s2.sl, cs⟩ σ ∧ H' D = some (.lst ys) ∧ F' D = none ∧ (D ∉ ad' ∧ D ∉ cs.flatMap Cell.ads) ∧ DaAll F' acc ys ∧ acc.length ≤ i ∧ lcW g tt te vs ok s2.sl (ds.drop i) acc cs (fun acc cs => Q (.lst acc) ⟨s2.sl, cs⟩),
    ⟨ds.length, by simp, Nat.zero_le _, ad2, F2, s2.cs, [], [], Same.refl _, Ext.refl _, r2.gr ((Gr.refl r2.fh).open' hD), upd_same, hF2, ⟨f3, fun z => (r2.inn.fr D z).2 hD⟩, daAll_nil, Nat.le_refl _, q⟩, ?_⟩
  rintro i m H' ⟨rfl, hi', ad', F', cs, acc, ys, sF, eF, r', hHD, hFD, ⟨hDad, hDt⟩, hda, hacc, q'⟩
  have hok : ok cs := by
    cases hdr : ds.drop i with
    | nil => rw [hdr] at q'; exact q'.1
    | cons _ _ => rw [hdr] at q'; exact q'.1
  obtain ⟨w1, w2⟩ := w B ad' F' H' ⟨s2.sl, cs⟩ σ eF sF r' hok
  by_cases hlt : i < ds.length
  · have e0 : ds[i]? = some ds[i] := List.getElem?_eq_getElem hlt
    obtain ⟨go, yl⟩ := w1 i _ e0
    rw [drop_get e0] at q'
    refine .inr ⟨go, fun H3 => i + 1 ≤ ds.length ∧ ∃ ad' F' cs acc ys, Same F2 F' ∧ Ext ad2 ad' ∧ Rl B ad' F' H3 ⟨s2.sl, cs⟩ σ ∧ H3 D = some (.lst ys) ∧ F' D = none ∧ (D ∉ ad' ∧ D ∉ cs.flatMap Cell.ads) ∧ DaAll F' acc ys ∧ acc.length ≤ i + 1 ∧ lcW g tt te vs ok s2.sl (ds.drop (i + 1)) acc cs (fun acc cs => Q (.lst acc) ⟨s2.sl, cs⟩),
      fun H3 p' => ⟨ds.length - (i + 1), by omega, rfl, p'⟩, fun x H4 y => ?_⟩
    obtain ⟨F4, g4, hd⟩ := yl x H4 y
    have r4 := r'.gr g4
    have hHD4 := g4.hh _ _ hHD
    have hFD4 : F4 D = none := g4.f0 hFD hHD
    have rw4 := r4.wipe vs
    intro s0 H0 C cl fp
    refine ((hg s0 H0 C cl fp).run _ ad' F4 H4 _ _ (.d ds[i]) x _ rw4.base hd q'.2).mono2 ?_
    rintro σ5 H5 ⟨rfl, k5, s5, r5, q5⟩
    refine ⟨wipe_keeps k5 hk, hT _ _ _ _ (ht _ ad' F4 H5 s5 σ5 _ r5 q5) fun b H6 q6 => ?_⟩
    obtain ⟨ad6, F6, s6, e6, k6, r6, q6⟩ := q6
    cases b with
    | true =>
      rw [if_pos rfl] at q6
      refine iteT ?_
      intro s0 H0 C cl fp
      refine ((he s0 H0 C cl fp _).run ad6 F6 H6 s6 σ5 _ r6 q6).imp fun v H7 q7 => ?_
      obtain ⟨ad7, F7, z, s7, e7, k7, r7, hv, d, hd7, q7⟩ := q7
      have := AVal.data?_of hd7
      subst this
      obtain ⟨h1, h2, h3, h9⟩ := r7.aside hDad hDt hHD4 hFD4
      have rb := r4.back (rw4.rebase r7) (e6.trans e7) (k6.trans k7)
      refine ⟨ys, h1, ?_, hlt, ad7, F7, s7.cs, acc ++ [d], ys ++ [v], sF.trans (g4.ff.trans (k6.trans k7)), eF.trans (e6.trans e7), rb.aput h3 h2 f1 h9 (r2.offT hD), upd_same, h2, ⟨h3, h9⟩, (hda.mono (g4.ff.trans (k6.trans k7))).snoc hv, by simp; omega, q7⟩
      have h8 := hda.length
      omega
    | false =>
      obtain ⟨h1, h2, h3, h9⟩ := r6.aside hDad hDt hHD4 hFD4
      have rb := r4.back (rw4.rebase r6) e6 k6
      exact iteF ⟨hlt, ad6, F6, s6.cs, acc, ys, sF.trans (g4.ff.trans k6), eF.trans e6, rb, h1, h2, ⟨h3, h9⟩, hda.mono (g4.ff.trans k6), by omega, q6⟩
  · have e : i = ds.length := by omega
    subst e
    rw [List.drop_length] at q'
    refine .inl ⟨w2, hK _ _ ⟨ad', F', .lst acc, ⟨s2.sl, cs⟩, D, out H' D, .lst ys, e2.trans eF, k2.trans sF, r'.aout hDad hFD f1 hDt (r2.offT hD), rfl, out_same, (upd_out hHD).symm, ⟨ys, hHD, hda⟩, rfl, q'.2⟩⟩
theorem lc_coreA {T : TT} (hi : IO X B tg iter ti) (hg : ∀ s H0 C cl fp, GT (Blk X scope s H0 C cl fp) tg ks g) (hk : ∀ k ∈ ks, k ∈ vs)
    (ht : ∀ B' ad F H s σ Q, Rl B' ad F H s σ → tt s Q → T σ H (PostT B' ad F σ Q)) (hT : ∀ σ H (Q Q' : Bool → Hp → Prop), T σ H Q → (∀ b H', Q b H' → Q' b H') → T σ H Q')
    (he : ∀ s H0 C cl fp B', EA (Blk X scope s H0 C cl fp) B' elt te) {ad : List Addr} {s : AS} {Q : Cell → AS → Prop} {K : VK} (r : Rl B ad F H s σ) (t : lcN ti g tt te vs s Q) (hK : ∀ v H', PostN B ad F σ Q v H' → K v H') :
    tLc (WI X tg iter) (gB X scope tg) T (eB X scope elt) vs σ H K := lc_coreB hg hk ht hT he (fun Q R t k => hi.run ad F H s σ Q R r t k) r t hK
theorem tYes_ok {B' : Bs} {ad : List Addr} {F H : Hp} {s : AS} {σ : St} {Q : Bool → AS → Prop} (r : Rl B' ad F H s σ) (t : yesA s Q) : tYes σ H (PostT B' ad F σ Q) := PostT.here r t
theorem en_lc (own : List (Str × Nat)) (o : LcOk X scope own iter) (hi : IO X B tg iter ti) (hg : ∀ s H0 C cl fp, GT (Blk X scope s H0 C cl fp) tg ks g) (he : ∀ s H0 C cl fp B', EA (Blk X scope s H0 C cl fp) B' elt te) (hk : ∀ k ∈ ks, k ∈ own.map (·.2) := by decide) :
    EN X B (.ListComp elt [⟨tg, iter, [], 0⟩] scope pos) (lcN ti g yesA te (own.map (·.2))) := ⟨fun ad F H s σ Q r t =>
  we_of (pe_lc (g := gB X scope tg) (tt := tYes) (te := eB X scope elt) o.calm o.nd pi_wi (blkOk_by o.ok) (fun s H0 C cl fp => ⟨fun pins s' σ H v u Q I r h => h s H0 C cl fp pins s' u I r⟩) (fun _ _ _ _ _ => pts_nil) (fun s H0 C cl fp => ⟨fun pins s' σ H Q I h => h s H0 C cl fp pins s' I⟩) o.fs)
    (lc_coreA hi hg hk (fun B' ad F H s σ Q r t => tYes_ok r t) (fun σ H Q Q' h k => k _ _ h) he r t fun _ _ h => h)⟩
theorem en_lcIf (own : List (Str × Nat)) (o : LcOk X scope own iter) (hi : IO X B tg iter ti) (hg : ∀ s H0 C cl fp, GT (Blk X scope s H0 C cl fp) tg ks g) (ht : ∀ s H0 C cl fp B', ET (Blk X scope s H0 C cl fp) B' c tt) (he : ∀ s H0 C cl fp B', EA (Blk X scope s H0 C cl fp) B' elt te) (hk : ∀ k ∈ ks, k ∈ own.map (·.2) := by decide) :
    EN X B (.ListComp elt [⟨tg, iter, [c], 0⟩] scope pos) (lcN ti g tt te (own.map (·.2))) := ⟨fun ad F H s σ Q r t =>
  we_of (pe_lc (g := gB X scope tg) (tt := tB' X scope c) (te := eB X scope elt) o.calm o.nd pi_wi (blkOk_by o.ok) (fun s H0 C cl fp => ⟨fun pins s' σ H v u Q I r h => h s H0 C cl fp pins s' u I r⟩) (fun s H0 C cl fp => pts_one ⟨fun pins s' σ H Q I h => h s H0 C cl fp pins s' I⟩) (fun s H0 C cl fp => ⟨fun pins s' σ H Q I h => h s H0 C cl fp pins s' I⟩) o.fs)
    (lc_coreA hi hg hk (fun B' ad F H s σ Q r t s0 H0 C cl fp => (ht s0 H0 C cl fp B').run ad F H s σ Q r t) (fun σ H Q Q' h k s0 H0 C cl fp => (h s0 H0 C cl fp).imp k) he r t fun _ _ h => h)⟩
theorem PostN.owned {ad : List Addr} {F : Hp} {Q : VQ} {v : V} {H2 : Hp} (q : PostN B ad F σ (fun c s1 => Q (.r s1.cs.length) ⟨s1.sl, s1.cs ++ [c]⟩) v H2) : Post B ad F σ Q v H2 := by
  obtain ⟨ad2, F2, c, a2, p, H1, o, h1, h2, r2, rfl, hp, rfl, ok, hl, q⟩ := q
  have r3 := r2.push (o := o) hp (ok.mono (ad2 := ad2 ++ [p]) ⟨[p], rfl⟩ (Same.refl _) (fun _ e => e) fun _ _ _ e => e) hl
  exact ⟨_, F2, .r a2.cs.length, _, h1.trans ⟨[p], rfl⟩, h2, r3, ⟨p, by rw [← r2.len]; simp, rfl⟩, q⟩
theorem PostN.frz {ad : List Addr} {F : Hp} {Q : VQ} {v : V} {H2 : Hp} (q : PostN B ad F σ (fun c s1 => onSome (frzC c) fun d => Q (.d d) s1) v H2) : Post B ad F σ Q v H2 := by
  obtain ⟨ad2, F2, c, a2, p, H1, o, h1, h2, r2, rfl, hp, rfl, ok, hl, d, hd, q⟩ := q
  obtain ⟨o', e1, e2⟩ := ok.frz hl (r2.fh.free hp) hd
  rw [upd_same] at e1
  cases e1
  exact (Post.newD r2 hp e2 q).up h1 h2
theorem sa_setLcIfF (k : Nat) (own : List (Str × Nat)) (o : LcOk X scope own iter) (hi : IO X B tg iter ti) (hg : ∀ s H0 C cl fp, GT (Blk X scope s H0 C cl fp) tg ks g) (ht : ∀ s H0 C cl fp B', ET (Blk X scope s H0 C cl fp) B' c tt) (he : ∀ s H0 C cl fp B', EA (Blk X scope s H0 C cl fp) B' elt te)
    (hk : ∀ k ∈ ks, k ∈ own.map (·.2) := by decide) (hy : X.N[k]? = some y := by rfl) (hyl : X.env.scope.names.lookup y = some .local := by rfl)
    (hsw : swapsWith (.ListComp elt [⟨tg, iter, [c], 0⟩] scope pos) (some (.Name y py)) spos.line X.env = pure true := by exact sw_true rfl rfl rfl (by decide +kernel)) :
    SA X B (.Assign [.Name y py] (.ListComp elt [⟨tg, iter, [c], 0⟩] scope pos) spos) (setA k (frzA (lcN ti g tt te (own.map (·.2))))) := ⟨fun D s h ad F H σ r =>
  ws_of (ps_setLc (g := gB X scope tg) (tt := tB' X scope c) (te := eB X scope elt) o.calm o.nd hy hyl hsw pi_wi (blkOk_by o.ok) (fun s H0 C cl fp => ⟨fun pins s' σ H v u Q I r h => h s H0 C cl fp pins s' u I r⟩) (fun s H0 C cl fp => pts_one ⟨fun pins s' σ H Q I h => h s H0 C cl fp pins s' I⟩) (fun s H0 C cl fp => ⟨fun pins s' σ H Q I h => h s H0 C cl fp pins s' I⟩) o.fs)
    (lc_coreA (Q := fun c s1 => onSome (frzC c) fun d => D.nx ⟨s1.sl.set k (some (.d d)), s1.cs⟩) hi hg hk (fun B' ad F H s σ Q r t s0 H0 C cl fp => (ht s0 H0 C cl fp B').run ad F H s σ Q r t) (fun σ H Q Q' h k s0 H0 C cl fp => (h s0 H0 C cl fp).imp k) he r h fun v H' p => by
      obtain ⟨ad1, F1, y, s1, e1, k1, r1, hv, q⟩ := PostN.frz (Q := fun x s1 => D.nx ⟨s1.sl.set k (some x), s1.cs⟩) p
      exact ⟨ad1, F1, _, r1.set hv, q⟩)⟩
end
end Kr
/-! layer A5 -/
namespace Kr
open PySem L2
/-! ## what an abstract value is seen as -/
inductive View where
  | seq (xs : List AVal)
  | dct (kvs : List (Key × AVal))
  | txt (z : Str)
  | oth
def keyOf : PyData → Option Key
  | .int i => some (.inl i)
  | .str x => some (.inr x)
  | _ => none
def unKV : List (PyData × PyData) → Option (List (Key × PyData))
  | [] => some []
  | p :: r => (keyOf p.1).bind fun k => (unKV r).map fun r => (k, p.2) :: r
theorem unKV_no {k : List (PyData × PyData)} {l : List (Key × PyData)} (e : unKV k = some l) : noExK k = true := by
  cases k with
  | nil => rfl
  | cons p r =>
    obtain ⟨x, y⟩ := p
    cases x with
    | none => cases e
    | _ => rfl
def dkv (kvs : List (Key × PyData)) : List (Key × AVal) := kvs.map fun p => (p.1, .d p.2)
def viewD : PyData → View
  | .list ds => .seq (ds.map .d)
  | .tuple ds => .seq (ds.map .d)
  | .str z => .txt z
  | .dict kvs => match unKV kvs with
    | some l => .dct (dkv l)
    | none => .oth
  | _ => .oth
/-- the parts of a node -/
def valT (n : Nat) (pt : List Nat) : Tr → AVal
  | .d x => .d x
  | .nd _ a _ => .a a n pt
def kids (n : Nat) (pt : List Nat) (xs : List Tr) : List AVal := xs.mapIdx fun i t => valT n (i :: pt) t
def viewT (n : Nat) (pt : List Nat) (k : Kd) (xs : List Tr) : View := match k with
  | .lst => .seq (kids n pt xs)
  | .tup => .seq (kids n pt xs)
  | .dct ks => .dct (ks.zip (kids n pt xs))
  | .dctT _ => .oth
  | .obj _ _ _ => .oth
def viewC (n : Nat) : Cell → View
  | .tr (.nd k _ xs) => viewT n [] k xs
  | .lst ds => .seq (ds.map .d)
  | .nl xs => .seq xs
  | .nt xs => .seq xs
  | .dK kvs => .dct (dkv kvs)
  | .nd kvs => .dct kvs
  | .dl _ _ kvs => .dct (dkv kvs)
  | .fz x => viewD x
  | _ => .oth
def view (s : AS) : AVal → View
  | .d x => viewD x
  | .r n => match s.cs[n]? with
    | some c => viewC n c
    | none => .oth
  | .s _ _ => .oth
  | .a p n pt => match nodeAt s (.a p n pt) with
    | some (m, pt', k, _, xs) => viewT m pt' k xs
    | none => .oth
def AVal.key? : AVal → Option Key
  | .d x => keyOf x
  | _ => none
def getA {α : Type} (kvs : List (Key × α)) (k : Key) : Option α := (kvs.find? fun kv => decide (kv.1 = k)).map (·.2)
def putA {α : Type} (kvs : List (Key × α)) (k : Key) (v : α) : List (Key × α) :=
  if (kvs.any fun kv => decide (kv.1 = k)) = true then kvs.map (fun kv => if kv.1 = k then (kv.1, v) else kv) else kvs ++ [(k, v)]
theorem keyOf_keyD (k : Key) : keyOf (keyD k) = some k := by cases k <;> rfl
theorem unKV_keyD : ∀ kvs : List (Key × PyData), unKV (kvs.map fun p => (keyD p.1, p.2)) = some kvs
  | [] => rfl
  | p :: r => by
    show (keyOf (keyD p.1)).bind _ = _
    rw [keyOf_keyD, unKV_keyD r]; rfl
theorem view_dictD {s : AS} {kvs : List (Key × PyData)} : view s (.d (dictD kvs)) = .dct (dkv kvs) := by
  show (match unKV (kvs.map fun p => (keyD p.1, p.2)) with | some l => View.dct (dkv l) | none => .oth) = _
  rw [unKV_keyD]
section
variable {B : Bs} {ad : List Addr} {F H : Hp} {s : AS} {σ : St} {x y : AVal} {v : V}
theorem keyOf_da {d : PyData} {k : Key} (h : keyOf d = some k) (hd : Da F d v) : v = kV k := by
  cases d <;> simp only [keyOf] at h <;> cases h <;> exact hd
theorem AVal.key?_ok {k : Key} (h : x.key? = some k) (hv : VOk ad F x v) : v = kV k := by
  cases x with
  | d x => exact keyOf_da h hv
  | r n => cases h
  | s _ _ => cases h
  | a _ _ _ => cases h
theorem valT_ok {n : Nat} {pt : List Nat} {t : Tr} (h : TrOk F H t v) : VOk ad F (valT n pt t) v := by
  cases t with
  | d x => exact h
  | nd k a xs => exact h.node.1
theorem kids_ok {n : Nat} {pt : List Nat} {xs : List Tr} {vs : List V} (h : TrAll F H xs vs) : Paired (VOk ad F) (kids n pt xs) vs := by
  have key : ∀ (g : Nat → List Nat) (xs : List Tr) (vs : List V), TrAll F H xs vs → Paired (VOk ad F) (xs.mapIdx fun i t => valT n (g i) t) vs := by
    intro g xs
    induction xs generalizing g with
    | nil => intro vs h; obtain rfl := (show vs = [] from h); exact .nil
    | cons t ts ih =>
      intro vs h
      obtain ⟨v, r, rfl, h1, h2⟩ := (show ∃ v r, vs = v :: r ∧ TrOk F H t v ∧ TrAll F H ts r from h)
      rw [List.mapIdx_cons]
      exact .cons (valT_ok h1) (ih (fun i => g (i + 1)) r h2)
  exact key _ xs vs h
theorem zip_ok {ks : List Key} {xs : List AVal} {vs : List V} (h : Paired (VOk ad F) xs vs) : KrOk ad F (ks.zip xs) (ks.zip vs) := by
  induction h generalizing ks with
  | nil => simp; exact .nil
  | cons h t ih =>
    cases ks with
    | nil => exact .nil
    | cons k ks => exact .cons ⟨rfl, h⟩ ih
theorem viewT_seq {n : Nat} {pt : List Nat} {k : Kd} {q : Addr} {xs : List Tr} {vs : List V} {ys : List AVal} (e : viewT n pt k xs = .seq ys) (h1 : H q = some (k.ho vs)) (h2 : TrAll F H xs vs) : (H q = some (.lst vs) ∨ H q = some (.tup vs)) ∧ Paired (VOk ad F) ys vs := by
  cases k with
  | lst => cases e; exact ⟨.inl h1, kids_ok h2⟩
  | tup => cases e; exact ⟨.inr h1, kids_ok h2⟩
  | dct ks => cases e
  | dctT ks => cases e
  | obj _ _ _ => cases e
theorem viewT_dct {n : Nat} {pt : List Nat} {k : Kd} {q : Addr} {xs : List Tr} {vs : List V} {kvs : List (Key × AVal)} (e : viewT n pt k xs = .dct kvs) (h1 : H q = some (k.ho vs)) (h2 : TrAll F H xs vs) : ∃ es, Rd H q (.dK es) ∧ KrOk ad F kvs es := by
  cases k with
  | lst => cases e
  | tup => cases e
  | dct ks => cases e; exact ⟨_, .inl h1, zip_ok (kids_ok h2)⟩
  | dctT ks => cases e
  | obj _ _ _ => cases e
theorem viewT_txt {n : Nat} {pt : List Nat} {k : Kd} {xs : List Tr} {z : Str} (e : viewT n pt k xs = .txt z) : False := by
  cases k <;> cases e
theorem krOk_dkv {kvs : List (Key × PyData)} {es : List (Key × V)} (h : KvOk F kvs es) : KrOk ad F (dkv kvs) es := by
  unfold dkv KrOk
  unfold KvOk at h
  induction h with
  | nil => exact .nil
  | cons h t ih => exact .cons h ih
theorem kvOk_of : ∀ {kvs : List (PyData × PyData)} {l : List (Key × PyData)} {es : List (Key × V)}, unKV kvs = some l → DaKV F kvs es → KvOk F l es
  | [], l, es, h, hd => by cases h; obtain rfl := (show es = [] from hd); exact .nil
  | (k, d) :: r, l, es, h, hd => by
    obtain ⟨k', v, r', rfl, h0, h1, h2⟩ := (show ∃ k' v r', es = (k', v) :: r' ∧ KeyD k k' ∧ Da F d v ∧ DaKV F r r' from hd)
    have h' : (keyOf k).bind (fun k => (unKV r).map fun r => (k, d) :: r) = some l := h
    cases hk : keyOf k with
    | none => rw [hk] at h'; cases h'
    | some k2 =>
      rw [hk] at h'
      cases hr : unKV r with
      | none => rw [hr] at h'; cases h'
      | some r2 =>
        rw [hr] at h'
        cases h'
        refine .cons ⟨?_, h1⟩ (kvOk_of hr h2)
        cases k <;> simp only [keyOf] at hk <;> cases hk <;> cases k' <;> simp only [KeyD] at h0
        · rw [h0]
        · rw [h0]
theorem viewD_seq {d : PyData} {xs : List AVal} (e : viewD d = .seq xs) (h : Da F d v) : ∃ l vs, v = .ref l ∧ (F l = some (.lst vs) ∨ F l = some (.tup vs)) ∧ Paired (VOk ad F) xs vs := by
  cases d with
  | list ds => cases e; obtain ⟨a, vs, rfl, h1, h2⟩ := h; exact ⟨a, vs, rfl, .inl h1, pairedD h2⟩
  | tuple ds => cases e; obtain ⟨a, vs, rfl, h1, h2⟩ := h; exact ⟨a, vs, rfl, .inr h1, pairedD h2⟩
  | dict kvs =>
    simp only [viewD] at e
    split at e <;> cases e
  | _ => cases e
theorem viewD_dct {d : PyData} {kvs : List (Key × AVal)} (e : viewD d = .dct kvs) (h : Da F d v) : ∃ l es, v = .ref l ∧ Rd F l (.dK es) ∧ KrOk ad F kvs es := by
  cases d with
  | dict k =>
    simp only [viewD] at e
    split at e
    · rename_i l hl
      cases e
      obtain ⟨a, es, rfl, h1, h2⟩ := Da.dict h (unKV_no hl)
      exact ⟨a, es, rfl, h1, krOk_dkv (kvOk_of hl h2)⟩
    · cases e
  | _ => cases e
theorem viewD_txt {d : PyData} {z : Str} (e : viewD d = .txt z) (h : Da F d v) : v = .str z := by
  cases d with
  | str k => cases e; exact h
  | dict kvs =>
    simp only [viewD] at e
    split at e <;> cases e
  | _ => cases e
theorem VOk.seq {xs : List AVal} (r : Rl B ad F H s σ) (h : VOk ad F x v) (e : view s x = .seq xs) : ∃ l vs, v = .ref l ∧ (H l = some (.lst vs) ∨ H l = some (.tup vs)) ∧ Paired (VOk ad F) xs vs := by
  cases x with
  | s _ _ => cases e
  | d x =>
    obtain ⟨l, vs, h1, h2, h3⟩ := viewD_seq (ad := ad) e h
    exact ⟨l, vs, h1, h2.elim (fun z => .inl (r.fh _ _ z)) (fun z => .inr (r.fh _ _ z)), h3⟩
  | r n =>
    obtain ⟨a, h1, rfl⟩ := h
    simp only [view] at e
    split at e
    · rename_i c hc
      obtain ⟨_, _, ok⟩ := r.cel n a c h1 hc
      cases c with
      | lst ds => cases e; obtain ⟨vs, h2, h3⟩ := ok; exact ⟨a, vs, rfl, .inl h2, pairedD h3⟩
      | nl xs => cases e; obtain ⟨vs, h2, h3⟩ := ok; exact ⟨a, vs, rfl, .inl h2, h3⟩
      | nt xs => cases e; obtain ⟨vs, h2, h3⟩ := ok; exact ⟨a, vs, rfl, .inr h2, h3⟩
      | fz y =>
        obtain ⟨l, vs, h1, h2, h3⟩ := viewD_seq (ad := ad) (F := F) e ok
        exact ⟨l, vs, h1, h2.elim (fun z => .inl (r.fh _ _ z)) (fun z => .inr (r.fh _ _ z)), h3⟩
      | tr t => cases t with
        | d _ => cases e
        | nd k q ys =>
          obtain ⟨h2, h3⟩ := ok
          cases h2
          obtain ⟨_, vs, h4, _, h5⟩ := h3.node
          obtain ⟨h6, h7⟩ := viewT_seq (ad := ad) e h4 h5
          exact ⟨_, vs, rfl, h6, h7⟩
      | _ => cases e
    · cases e
  | a p n pt =>
    simp only [view] at e
    split at e
    · rename_i m pt' k q ys hn
      obtain ⟨t, p', vs, N⟩ := nodeAt_ok r h hn
      obtain ⟨h6, h7⟩ := viewT_seq (ad := ad) e N.ho N.kids
      exact ⟨q, vs, N.val, h6, h7⟩
    · cases e
theorem Rd.up {F H : Hp} {a : Addr} {u : HO} (s : Same F H) (h : Rd F a u) : Rd H a u := h.elim (fun z => .inl (s _ _ z)) fun ⟨o, z⟩ => .inr ⟨o, s _ _ z⟩
theorem VOk.dct {kvs : List (Key × AVal)} (r : Rl B ad F H s σ) (h : VOk ad F x v) (e : view s x = .dct kvs) : ∃ l es, v = .ref l ∧ Rd H l (.dK es) ∧ KrOk ad F kvs es := by
  cases x with
  | s _ _ => cases e
  | d x =>
    obtain ⟨l, vs, h1, h2, h3⟩ := viewD_dct (ad := ad) e h
    exact ⟨l, vs, h1, Rd.up r.fh h2, h3⟩
  | r n =>
    obtain ⟨a, h1, rfl⟩ := h
    simp only [view] at e
    split at e
    · rename_i c hc
      obtain ⟨_, _, ok⟩ := r.cel n a c h1 hc
      cases c with
      | dK ds => cases e; obtain ⟨vs, h2, h3⟩ := ok; exact ⟨a, vs, rfl, .inl h2, krOk_dkv h3⟩
      | dl od es ds => cases e; obtain ⟨h2, h3⟩ := ok; exact ⟨a, es, rfl, .inr ⟨od, h2⟩, krOk_dkv h3⟩
      | nd xs => cases e; obtain ⟨vs, h2, h3⟩ := ok; exact ⟨a, vs, rfl, .inl h2, h3⟩
      | fz y =>
        obtain ⟨l, vs, h1, h2, h3⟩ := viewD_dct (ad := ad) (F := F) e ok
        exact ⟨l, vs, h1, Rd.up r.fh h2, h3⟩
      | tr t => cases t with
        | d _ => cases e
        | nd k q ys =>
          obtain ⟨h2, h3⟩ := ok
          cases h2
          obtain ⟨_, vs, h4, _, h5⟩ := h3.node
          obtain ⟨es, h6, h7⟩ := viewT_dct (ad := ad) e h4 h5
          exact ⟨_, es, rfl, h6, h7⟩
      | _ => cases e
    · cases e
  | a p n pt =>
    simp only [view] at e
    split at e
    · rename_i m pt' k q ys hn
      obtain ⟨t, p', vs, N⟩ := nodeAt_ok r h hn
      obtain ⟨es, h6, h7⟩ := viewT_dct (ad := ad) e N.ho N.kids
      exact ⟨q, es, N.val, h6, h7⟩
    · cases e
theorem VOk.txt {z : Str} (r : Rl B ad F H s σ) (h : VOk ad F x v) (e : view s x = .txt z) : v = .str z := by
  cases x with
  | s _ _ => cases e
  | d x => exact viewD_txt e h
  | r n =>
    obtain ⟨a, h1, rfl⟩ := h
    simp only [view] at e
    split at e
    · rename_i c hc
      obtain ⟨_, _, ok⟩ := r.cel n a c h1 hc
      cases c with
      | fz y => exact viewD_txt (F := F) e ok
      | tr t => cases t with
        | d _ => cases e
        | nd k q ys => exact (viewT_txt e).elim
      | _ => cases e
    · cases e
  | a p n pt =>
    simp only [view] at e
    split at e
    · exact (viewT_txt e).elim
    · cases e
theorem Paired.get {α β : Type} {R : α → β → Prop} : ∀ {xs : List α} {ys : List β} {i : Nat} {x : α}, Paired R xs ys → xs[i]? = some x → ∃ y, ys[i]? = some y ∧ R x y
  | _, _, _, _, .nil, e => by simp at e
  | _, _, 0, _, .cons h _, e => by simp at e; subst e; exact ⟨_, rfl, h⟩
  | _, _, i + 1, x, .cons _ t, e => by
    obtain ⟨y, h1, h2⟩ := Paired.get (i := i) t (by simpa using e)
    exact ⟨y, by simpa using h1, h2⟩
theorem Paired.atI {α β : Type} {R : α → β → Prop} {xs : List α} {ys : List β} {i : Int} {x : α} (h : Paired R xs ys) (e : L2.atI xs i = some x) : ∃ y, L2.atI ys i = some y ∧ R x y := by
  unfold L2.atI at e ⊢
  rw [← Paired.len h]
  cases hj : ixN xs.length i with
  | none => rw [hj] at e; simp at e
  | some j =>
    rw [hj] at e
    exact Paired.get h (by simpa using e)
theorem KrOk.get {kvs : List (Key × AVal)} {es : List (Key × V)} {k : Key} (h : KrOk ad F kvs es) : match getA kvs k with | some x => ∃ v, valV es k = some v ∧ VOk ad F x v | none => valV es k = none := by
  unfold KrOk at h
  induction h with
  | nil => rfl
  | @cons p q ps qs h t ih =>
    by_cases hk : p.1 = k
    · have : getA (p :: ps) k = some p.2 := by simp [getA, List.find?_cons, hk]
      rw [this]
      exact ⟨q.2, valV_pos (h.1.symm.trans hk), h.2⟩
    · have e1 : getA (p :: ps) k = getA ps k := by simp [getA, List.find?_cons, hk]
      have e2 : valV (q :: qs) k = valV qs k := valV_neg (by rw [← h.1]; exact hk)
      rw [e1, e2]
      exact ih
theorem any_keys {α β : Type} {R : α → β → Prop} {kvs : List (Key × α)} {es : List (Key × β)} {k : Key} (h : Paired (fun p q => p.1 = q.1 ∧ R p.2 q.2) kvs es) : (kvs.any fun kv => decide (kv.1 = k)) = (es.any fun kv => decide (kv.1 = k)) := by
  induction h with
  | nil => rfl
  | cons h t ih => simp only [List.any_cons, ih, h.1]
theorem put_pair {α : Type} {R : α → V → Prop} {kvs : List (Key × α)} {es : List (Key × V)} {k : Key} {x : α} {v : V} (h : Paired (fun p q => p.1 = q.1 ∧ R p.2 q.2) kvs es) (hx : R x v) : Paired (fun p q => p.1 = q.1 ∧ R p.2 q.2) (putA kvs k x) (putK es k v) := by
  unfold putA putK
  rw [any_keys h]
  split
  · rename_i hany
    clear hany
    induction h with
    | nil => exact .nil
    | @cons p q ps qs h t ih =>
      refine .cons ?_ ih
      dsimp only
      rw [← h.1]
      by_cases hk : p.1 = k
      · rw [if_pos hk, if_pos hk]; exact ⟨rfl, hx⟩
      · rw [if_neg hk, if_neg hk]; exact h
  · exact Paired.snoc h ⟨rfl, hx⟩
end
/-! ## operators -/
section
variable {X : Cx} {B : Bs}
def intOp (C : Int → Int → Prop) (g : Int → Int → Int) : AVal → AVal → TEA := fun x y s Q => onSome x.int? fun i => onSome y.int? fun j => C i j ∧ Q (.d (.int (g i j))) s
theorem opa_I {f : Value → Value → Sem Value} {C : Int → Int → Prop} {g : Int → Int → Int} (ho : OpR X f (rI C fun i j => .int (g i j))) : OpA X B f (intOp C g) := fun ad F H s σ x y u v Q r hx hy ⟨i, ei, j, ej, hc, q⟩ => by
  have e1 := AVal.int?_of ei
  have e2 := AVal.int?_of ej
  subst e1; subst e2
  exact ⟨_, ho, i, j, hx, hy, hc, .here (x := .d (.int (g i j))) r rfl q⟩
def intOp0 (g : Int → Int → Int) : AVal → AVal → TEA := fun x y s Q => onSome x.int? fun i => onSome y.int? fun j => Q (.d (.int (g i j))) s
theorem opa_I0 {f : Value → Value → Sem Value} {g : Int → Int → Int} (ho : OpR X f (rI0 fun i j => .int (g i j))) : OpA X B f (intOp0 g) := fun ad F H s σ x y u v Q r hx hy ⟨i, ei, j, ej, q⟩ => by
  have e1 := AVal.int?_of ei
  have e2 := AVal.int?_of ej
  subst e1; subst e2
  exact ⟨_, ho, i, j, hx, hy, .here (x := .d (.int (g i j))) r rfl q⟩
def subA : AVal → AVal → TEA := intOp0 fun i j => i - j
def fdivA : AVal → AVal → TEA := intOp CDiv fun i j => i / j
def modA : AVal → AVal → TEA := intOp (fun _ j => 0 < j) fun i j => i % j
def powA : AVal → AVal → TEA := intOp CPow fun i j => i ^ j.toNat
def shlA : AVal → AVal → TEA := intOp CPow fun i j => i * 2 ^ j.toNat
def shrA : AVal → AVal → TEA := intOp (fun _ j => 0 ≤ j) fun i j => i / 2 ^ j.toNat
def bandA : AVal → AVal → TEA := intOp0 fun i j => Builtin.bitAnd i j
theorem o_sub : OpA X B (binaryOp .Sub) subA := opa_I0 op_sub
theorem o_mod : OpA X B (binaryOp .Mod) modA := opa_I op_mod
theorem o_pow : OpA X B (binaryOp .Pow) powA := opa_I op_pow
theorem o_shl : OpA X B (binaryOp .LShift) shlA := opa_I op_shl
theorem o_shr : OpA X B (binaryOp .RShift) shrA := opa_I op_shr
theorem o_band : OpA X B (binaryOp .BitAnd) bandA := opa_I0 op_and
/-- + of ints, texts, lists (told for good) -/
def addA : AVal → AVal → TEA := fun x y s Q => match x with
  | .d (.int i) => onSome y.int? fun j => Q (.d (.int (i + j))) s
  | .d (.str p) => onSome y.str? fun q => p.length + q.length ≤ sizeLine ∧ Q (.d (.str (p ++ q))) s
  | x => onSome (listOf s x) fun ds => onSome (listOf s y) fun es => ds.length + es.length ≤ sizeLine ∧ Q (.d (.list (ds ++ es))) s
theorem o_add : OpA X B (binaryOp .Add) addA := fun ad F H s σ x y u v Q r hx hy t => by
  have lists : ∀ {x : AVal} {u : V}, VOk ad F x u → (onSome (listOf s x) fun ds => onSome (listOf s y) fun es => ds.length + es.length ≤ sizeLine ∧ Q (.d (.list (ds ++ es))) s) → ∃ r, OpR X (binaryOp .Add) r ∧ r u v H (Post B ad F σ Q) := by
    rintro x u hx ⟨ds, e1, es, e2, hz, q⟩
    obtain ⟨l, vs, rfl, h1, h2⟩ := hx.list r e1
    obtain ⟨m, us, rfl, h3, h4⟩ := hy.list r e2
    exact ⟨_, op_cat, l, m, vs, us, rfl, rfl, h1, h3, by rw [h2.length, h4.length]; exact hz, fun p hp => .newD (d := .list (ds ++ es)) r hp ⟨p, _, rfl, upd_same, (h2.append h4).mono (same_upd (r.fh.free hp))⟩ q⟩
  unfold addA at t
  split at t
  · rename_i i
    obtain ⟨j, e, q⟩ := t
    have := AVal.int?_of e
    subst this
    exact ⟨_, op_add, i, j, hx, hy, .here (x := .d (.int (i + j))) r rfl q⟩
  · rename_i p
    obtain ⟨j, e, hz, q⟩ := t
    have := AVal.str?_of e
    subst this
    exact ⟨_, op_add_str, p, j, hx, hy, hz, .here (x := .d (.str (p ++ j))) r rfl q⟩
  · exact lists hx t
/-- + of lists, a new cell -/
def catN : AVal → AVal → TNA := fun x y s Q => onSome (listOf s x) fun ds => onSome (listOf s y) fun es => ds.length + es.length ≤ sizeLine ∧ Q (.lst (ds ++ es)) s
theorem o_cat : OpN X B (binaryOp .Add) catN := fun ad F H s σ x y u v Q r hx hy ⟨ds, e1, es, e2, hz, q⟩ => by
  obtain ⟨l, vs, rfl, h1, h2⟩ := hx.list r e1
  obtain ⟨m, us, rfl, h3, h4⟩ := hy.list r e2
  exact ⟨_, op_cat, l, m, vs, us, rfl, rfl, h1, h3, by rw [h2.length, h4.length]; exact hz, fun p hp => .here (c := .lst (ds ++ es)) r hp ⟨_, upd_same, h2.append h4⟩ rfl q⟩
/-- * of ints, of a list and an int -/
def repL (n : Int) (ds : List PyData) : List PyData := (List.replicate n.toNat ds).flatten
def mulA : AVal → AVal → TEA := fun x y s Q => match x with
  | .d (.int i) => onSome y.int? fun j => CMul i j ∧ Q (.d (.int (i * j))) s
  | x => onSome (listOf s x) fun ds => onSome y.int? fun n => (-(2 ^ 63) ≤ n ∧ n < 2 ^ 63 ∧ ds.length * n.toNat ≤ sizeLine) ∧ Q (.d (.list (repL n ds))) s
theorem o_mul : OpA X B (binaryOp .Mult) mulA := fun ad F H s σ x y u v Q r hx hy t => by
  have lists : ∀ {x : AVal} {u : V}, VOk ad F x u → (onSome (listOf s x) fun ds => onSome y.int? fun n => (-(2 ^ 63) ≤ n ∧ n < 2 ^ 63 ∧ ds.length * n.toNat ≤ sizeLine) ∧ Q (.d (.list (repL n ds))) s) → ∃ r, OpR X (binaryOp .Mult) r ∧ r u v H (Post B ad F σ Q) := by
    rintro x u hx ⟨ds, e1, n, e2, ⟨h1, h2, hz⟩, q⟩
    have := AVal.int?_of e2
    subst this
    obtain ⟨l, vs, rfl, h3, h4⟩ := hx.list r e1
    exact ⟨_, op_rep, l, n, vs, rfl, hy, h3, h1, h2, by rw [h4.length]; exact hz, fun p hp => .newD (d := .list (repL n ds)) r hp ⟨p, _, rfl, upd_same, (daAll_rep h4 _).mono (same_upd (r.fh.free hp))⟩ q⟩
  unfold mulA at t
  split at t
  · rename_i i
    obtain ⟨j, e, hc, q⟩ := t
    have := AVal.int?_of e
    subst this
    exact ⟨_, op_mul, i, j, hx, hy, hc, .here (x := .d (.int (i * j))) r rfl q⟩
  · exact lists hx t
def repN : AVal → AVal → TNA := fun x y s Q => onSome (listOf s x) fun ds => onSome y.int? fun n => (-(2 ^ 63) ≤ n ∧ n < 2 ^ 63 ∧ ds.length * n.toNat ≤ sizeLine) ∧ Q (.lst (repL n ds)) s
/-! ### comparisons -/
def intT (g : Int → Int → Bool) : AVal → AVal → TTA := fun x y s Q => onSome x.int? fun i => onSome y.int? fun j => Q (g i j) s
theorem opt_I {f : Value → Value → Sem Value} {g : Int → Int → Bool} (ho : OpR X f (rI0 fun i j => .bl (g i j))) : OpT X B f (intT g) := fun ad F H s σ x y u v Q r hx hy ⟨i, ei, j, ej, q⟩ => by
  have e1 := AVal.int?_of ei
  have e2 := AVal.int?_of ej
  subst e1; subst e2
  exact ⟨_, _, q, ho, fun K k => ⟨i, j, hx, hy, k⟩⟩
def leT : AVal → AVal → TTA := intT fun i j => decide (i ≤ j)
def gtT : AVal → AVal → TTA := intT fun i j => decide (j < i)
def geT : AVal → AVal → TTA := intT fun i j => decide (j ≤ i)
theorem o_gt : OpT X B (compareOp .Gt) gtT := opt_I op_gt
def ltT : AVal → AVal → TTA := fun x y s Q => match x with
  | .d (.str p) => onSome y.str? fun q => Q (decide (p.cps.toList < q.cps.toList)) s
  | x => onSome x.int? fun i => onSome y.int? fun j => Q (decide (i < j)) s
theorem o_lt : OpT X B (compareOp .Lt) ltT := fun ad F H s σ x y u v Q r hx hy t => by
  unfold ltT at t
  split at t
  · obtain ⟨j, e, q⟩ := t
    have := AVal.str?_of e
    subst this
    exact ⟨_, _, q, op_lt_str, fun K k => ⟨_, j, hx, hy, k⟩⟩
  · obtain ⟨i, ei, j, ej, q⟩ := t
    have e1 := AVal.int?_of ei
    have e2 := AVal.int?_of ej
    subst e1; subst e2
    exact ⟨_, _, q, op_lt, fun K k => ⟨i, j, hx, hy, k⟩⟩
def eqOk : PyData → PyData → Prop
  | .int _, .int _ => True
  | .str _, .str _ => True
  | .bool _, .bool _ => True
  | d, e => SeqAt.shaped d = true ∧ SeqAt.shaped e = true
theorem lay_list0 {ds : List PyData} (h : (PyData.list ds).canLay0 = true) : PyData.canLayAll0 ds = true := by simpa [PyData.canLay0] using h
theorem lay_tup0 {ds : List PyData} (h : (PyData.tuple ds).canLay0 = true) : PyData.canLayAll0 ds = true := by simpa [PyData.canLay0] using h
mutual
theorem TrOk.dp {K : PySem.W.Frag} {F H : Hp} (s : Same F H) : ∀ {t : Tr} {v : V} {d : PyData}, TrOk F H t v → t.data? = some d → d.canLay0 = true → Dp K H v d
  | .d x, v, d, h, e, c => by cases e; exact (Da.mono s h).dp c
  | .nd k a xs, v, d, h, e, c => by
    obtain ⟨h0, vs, h1, _, h3⟩ := h.node
    subst h0
    cases k with
    | lst =>
      have e' : (Tr.datas? xs).map PyData.list = some d := e
      cases hd : Tr.datas? xs with
      | none => rw [hd] at e'; cases e'
      | some ds => rw [hd] at e'; cases e'; exact .lst (SqL.of h1) (TrAll.dp s h3 hd (lay_list0 c))
    | tup =>
      have e' : (Tr.datas? xs).map PyData.tuple = some d := e
      cases hd : Tr.datas? xs with
      | none => rw [hd] at e'; cases e'
      | some ds => rw [hd] at e'; cases e'; exact .tup (SqT.of h1) (TrAll.dp s h3 hd (lay_tup0 c))
    | dct ks =>
      have e' : (Tr.datas? xs).map (fun ds => dictD (ks.zip ds)) = some d := e
      cases hd : Tr.datas? xs with
      | none => rw [hd] at e'; cases e'
      | some ds => rw [hd] at e'; cases e'; simp [dictD, PyData.canLay0] at c
    | dctT _ => cases e
    | obj _ _ _ => cases e
theorem TrAll.dp {K : PySem.W.Frag} {F H : Hp} (s : Same F H) : ∀ {ts : List Tr} {vs : List V} {ds : List PyData}, TrAll F H ts vs → Tr.datas? ts = some ds → PyData.canLayAll0 ds = true → DpAll K H vs ds
  | [], vs, ds, h, e, _ => by cases e; obtain rfl := (show vs = [] from h); exact .nil
  | t :: ts, vs, ds, h, e, c => by
    obtain ⟨v, r, rfl, h1, h2⟩ := (show ∃ v r, vs = v :: r ∧ TrOk F H t v ∧ TrAll F H ts r from h)
    unfold Tr.datas? at e
    split at e
    · rename_i y ys h3 h4
      cases e
      have c' : y.canLay0 = true ∧ PyData.canLayAll0 ys = true := by simpa [PyData.canLayAll0] using c
      exact .cons (TrOk.dp s h1 h3 c'.1) (TrAll.dp s h2 h4 c'.2)
    · cases e
end
theorem data_node {k : Kd} {q : Addr} {xs : List Tr} {d : PyData} (e : Tr.data? (.nd k q xs) = some d) : (∃ ds, d = .list ds) ∨ (∃ ds, d = .tuple ds) ∨ ∃ kvs, d = .dict kvs := by
  cases k with
  | lst =>
    have e' : (Tr.datas? xs).map PyData.list = some d := e
    cases hd : Tr.datas? xs with
    | none => rw [hd] at e'; cases e'
    | some ds => rw [hd] at e'; cases e'; exact .inl ⟨_, rfl⟩
  | tup =>
    have e' : (Tr.datas? xs).map PyData.tuple = some d := e
    cases hd : Tr.datas? xs with
    | none => rw [hd] at e'; cases e'
    | some ds => rw [hd] at e'; cases e'; exact .inr (.inl ⟨_, rfl⟩)
  | dct ks =>
    have e' : (Tr.datas? xs).map (fun ds => dictD (ks.zip ds)) = some d := e
    cases hd : Tr.datas? xs with
    | none => rw [hd] at e'; cases e'
    | some ds => rw [hd] at e'; cases e'; exact .inr (.inr ⟨_, rfl⟩)
  | dctT _ => cases e
  | obj _ _ _ => cases e
theorem VOk.dp {ad : List Addr} {F H : Hp} {s : AS} {σ : St} {x : AVal} {v : V} {d : PyData} (r : Rl B ad F H s σ) (h : VOk ad F x v) (e : dataOf s x = some d) (hc : d.canLay0 = true) : Dp X.K H v d := by
  cases x with
  | s _ _ => cases e
  | d x => cases e; exact (Da.mono r.fh h).dp hc
  | r n =>
    obtain ⟨a, h1, rfl⟩ := h
    cases hq : s.cs[n]? with
    | none => simp [dataOf, hq] at e
    | some c =>
      have e' : cellD c = some d := by simpa [dataOf, hq] using e
      obtain ⟨n0, l, ok⟩ := r.cel n a c h1 hq
      cases c with
      | tr t => exact ok.2.dp r.fh e' hc
      | lst ds =>
        cases e'
        obtain ⟨vs, h2, h3⟩ := ok
        exact Da.dp (H := H) (d := .list ds) ⟨a, vs, rfl, h2, h3.mono r.fh⟩ hc
      | dK kvs => cases e'; simp [dictD, PyData.canLay0] at hc
      | fz y => cases e'; exact (Da.mono r.fh ok).dp hc
      | _ => cases e'
  | a p n pt =>
    simp only [dataOf] at e
    split at e
    · rename_i m pt' k q ys hn
      obtain ⟨t, p', vs, N⟩ := nodeAt_ok r h hn
      have := N.val
      subst this
      exact TrOk.dp r.fh (TrOk.of N.ho N.side N.kids) e hc
    · cases e
theorem eqv_sc {ad : List Addr} {F : Hp} {d e : PyData} {u v : V} (h1 : Da F d u) (h2 : Da F e v) (hs : (∃ i j, d = .int i ∧ e = .int j) ∨ (∃ i j, d = .str i ∧ e = .str j) ∨ ∃ i j, d = .bool i ∧ e = .bool j) : scal u v = true ∧ decide (u = v) = PyData.eqv d e := by
  rcases hs with ⟨i, j, rfl, rfl⟩ | ⟨i, j, rfl, rfl⟩ | ⟨i, j, rfl, rfl⟩
  · obtain rfl : u = .int i := h1
    obtain rfl : v = .int j := h2
    exact ⟨rfl, by simp [PyData.eqv, Bool.beq_eq_decide_eq, eq_comm]⟩
  · obtain rfl : u = .str i := h1
    obtain rfl : v = .str j := h2
    exact ⟨rfl, by simp [PyData.eqv, Bool.beq_eq_decide_eq, eq_comm]⟩
  · obtain rfl : u = .bl i := h1
    obtain rfl : v = .bl j := h2
    exact ⟨rfl, by simp [PyData.eqv, Bool.beq_eq_decide_eq, eq_comm]⟩
def eqT (neg : Bool) : AVal → AVal → TTA := fun x y s Q => onSome (dataOf s x) fun d => onSome (dataOf s y) fun e => eqOk d e ∧ Q (PyData.eqv d e != neg) s
theorem data_sc {ad : List Addr} {F H : Hp} {s : AS} {σ : St} {x : AVal} {v : V} {d : PyData} (r : Rl B ad F H s σ) (h : VOk ad F x v) (e : dataOf s x = some d) (hs : (∃ i, d = .int i) ∨ (∃ i, d = .str i) ∨ ∃ i, d = .bool i) : Da F d v := by
  cases x with
  | s _ _ => cases e
  | d x => cases e; exact h
  | r n =>
    obtain ⟨a, h1, rfl⟩ := h
    cases hq : s.cs[n]? with
    | none => simp [dataOf, hq] at e
    | some c =>
      have e' : cellD c = some d := by simpa [dataOf, hq] using e
      obtain ⟨n0, l, ok⟩ := r.cel n a c h1 hq
      cases c with
      | tr t => cases t with
        | d x => cases e'; exact ok.2
        | nd k q ys => rcases data_node (q := q) e' with ⟨_, rfl⟩ | ⟨_, rfl⟩ | ⟨_, rfl⟩ <;> simp at hs
      | fz y => cases e'; exact ok
      | lst ds => cases e'; rcases hs with ⟨i, z⟩ | ⟨i, z⟩ | ⟨i, z⟩ <;> cases z
      | dK ds => cases e'; rcases hs with ⟨i, z⟩ | ⟨i, z⟩ | ⟨i, z⟩ <;> cases z
      | _ => cases e'
  | a p n pt =>
    simp only [dataOf] at e
    split at e
    · rename_i m pt' k q ys hn
      rcases data_node e with ⟨_, rfl⟩ | ⟨_, rfl⟩ | ⟨_, rfl⟩ <;> simp at hs
    · cases e
theorem o_eq (hu : X.A.units + 64 < cLine) : OpT X B (compareOp .Eq) (eqT false) := fun ad F H s σ x y u v Q r hx hy ⟨d, e1, e, e2, ho, q⟩ => by
  rw [show (PyData.eqv d e != false) = PyData.eqv d e by simp] at q
  have sc : ((∃ i j, d = .int i ∧ e = .int j) ∨ (∃ i j, d = .str i ∧ e = .str j) ∨ ∃ i j, d = .bool i ∧ e = .bool j) → ∃ b r, Q b s ∧ OpR X (compareOp .Eq) r ∧ ∀ K : VK, K (.bl b) H → r u v H K := fun hs => by
    have h1 : Da F d u := data_sc r hx e1 (by rcases hs with ⟨i, j, rfl, rfl⟩ | ⟨i, j, rfl, rfl⟩ | ⟨i, j, rfl, rfl⟩ <;> simp)
    have h2 : Da F e v := data_sc r hy e2 (by rcases hs with ⟨i, j, rfl, rfl⟩ | ⟨i, j, rfl, rfl⟩ | ⟨i, j, rfl, rfl⟩ <;> simp)
    obtain ⟨h3, h4⟩ := eqv_sc (ad := ad) h1 h2 hs
    exact ⟨_, _, q, op_eq, fun K k => ⟨h3, by rw [h4]; exact k⟩⟩
  have dp : SeqAt.shaped d = true ∧ SeqAt.shaped e = true → ∃ b r, Q b s ∧ OpR X (compareOp .Eq) r ∧ ∀ K : VK, K (.bl b) H → r u v H K := fun ⟨s1, s2⟩ =>
    ⟨_, _, q, op_eqD hu, fun K k => ⟨d, e, hx.dp r e1 (SeqAt.canLay_of_shaped s1), hy.dp r e2 (SeqAt.canLay_of_shaped s2), s1, s2, k⟩⟩
  unfold eqOk at ho
  split at ho
  · exact sc (.inl ⟨_, _, rfl, rfl⟩)
  · exact sc (.inr (.inl ⟨_, _, rfl, rfl⟩))
  · exact sc (.inr (.inr ⟨_, _, rfl, rfl⟩))
  · exact dp ho
theorem o_ne (hu : X.A.units + 64 < cLine) : OpT X B (compareOp .NotEq) (eqT true) := fun ad F H s σ x y u v Q r hx hy ⟨d, e1, e, e2, ho, q⟩ => by
  rw [show (PyData.eqv d e != true) = !PyData.eqv d e by simp] at q
  have sc : ((∃ i j, d = .int i ∧ e = .int j) ∨ (∃ i j, d = .str i ∧ e = .str j) ∨ ∃ i j, d = .bool i ∧ e = .bool j) → ∃ b r, Q b s ∧ OpR X (compareOp .NotEq) r ∧ ∀ K : VK, K (.bl b) H → r u v H K := fun hs => by
    have h1 : Da F d u := data_sc r hx e1 (by rcases hs with ⟨i, j, rfl, rfl⟩ | ⟨i, j, rfl, rfl⟩ | ⟨i, j, rfl, rfl⟩ <;> simp)
    have h2 : Da F e v := data_sc r hy e2 (by rcases hs with ⟨i, j, rfl, rfl⟩ | ⟨i, j, rfl, rfl⟩ | ⟨i, j, rfl, rfl⟩ <;> simp)
    obtain ⟨h3, h4⟩ := eqv_sc (ad := ad) h1 h2 hs
    exact ⟨_, _, q, op_ne, fun K k => ⟨h3, by rw [h4]; exact k⟩⟩
  have dp : SeqAt.shaped d = true ∧ SeqAt.shaped e = true → ∃ b r, Q b s ∧ OpR X (compareOp .NotEq) r ∧ ∀ K : VK, K (.bl b) H → r u v H K := fun ⟨s1, s2⟩ =>
    ⟨_, _, q, op_neD hu, fun K k => ⟨d, e, hx.dp r e1 (SeqAt.canLay_of_shaped s1), hy.dp r e2 (SeqAt.canLay_of_shaped s2), s1, s2, k⟩⟩
  unfold eqOk at ho
  split at ho
  · exact sc (.inl ⟨_, _, rfl, rfl⟩)
  · exact sc (.inr (.inl ⟨_, _, rfl, rfl⟩))
  · exact sc (.inr (.inr ⟨_, _, rfl, rfl⟩))
  · exact dp ho
end
end Kr
/-! layer A6 -/
namespace Kr
open PySem L2
/-! ## defs -/
inductive RV where
  | f (x : PyData)
  | n (c : Cell)
  /-- a new tree; a cell that was handed in -/
  | t (t : Tr)
  | p (k : Nat)
  /-- a tuple that is taken apart: its parts, among them new cells -/
  | u (xs : List AVal) (new : List Cell)
abbrev SpT := List AVal → List Cell → (RV → List Cell → Prop) → Prop
def refsOf : List AVal → List Nat
  | [] => []
  | .r n :: xs => n :: refsOf xs
  | .d _ :: xs => refsOf xs
  | .s _ _ :: xs => refsOf xs
  | .a _ n _ :: xs => n :: refsOf xs
def ren (ns : List Nat) : AVal → AVal
  | .r n => .r (ns.idxOf n)
  | .a p n pt => .a p (ns.idxOf n) pt
  | x => x
def putC (cs : List Cell) : List Nat → List Cell → List Cell
  | n :: ns, c :: ds => putC (cs.set n c) ns ds
  | _, _ => cs
/-- the new cells of a tuple's parts, and the parts by them -/
def newsOf (m : Nat) (xs : List AVal) : List Nat := (refsOf xs).filter fun n => decide (m ≤ n)
def partN (m : Nat) (ns : List Nat) : AVal → AVal
  | .r n => if n < m then .r n else .r (m + ns.idxOf n)
  | x => x
def parts (m : Nat) (cs : List Cell) (P : RV → List Cell → Prop) (xs : List AVal) : Prop := (newsOf m xs).Nodup ∧ onSome (subC cs (newsOf m xs)) fun new => new.all Cell.flat = true ∧ P (.u (xs.map (partN m (newsOf m xs))) new) (cs.take m)
def Cell.pass : Cell → Bool
  | .gone => false
  | c => c.flat
theorem pass_flat {c : Cell} (h : c.pass = true) : c.flat = true := by
  cases c with
  | gone => cases h
  | _ => exact h
theorem pass_gone {c : Cell} (h : c.pass = true) : c ≠ .gone := fun e => by subst e; cases h
def RPost (ad : List Addr) (F H : Hp) (T : List Addr) (P : RV → List Cell → Prop) : VK := fun v H2 =>
  (∃ F2 x cs2, Rl (Bs.at ad F H T) ad F2 H2 ⟨[], cs2⟩ [] ∧ (∀ c ∈ cs2, c.flat = true) ∧ Da F2 x v ∧ P (.f x) cs2) ∨
  (∃ F2 c cs2 p H1 o, Rl (Bs.at ad F H T) ad F2 H1 ⟨[], cs2⟩ [] ∧ (∀ c ∈ cs2, c.flat = true) ∧ v = .ref p ∧ H1 p = none ∧ H2 = upd H1 p o ∧ COk ad F2 H2 p c ∧ c.live = true ∧ c.flat = true ∧ P (.n c) cs2) ∨
  (∃ F2 t cs2 p, Rl (Bs.at ad F H T) (ad ++ [p]) F2 H2 ⟨[], cs2 ++ [.tr t]⟩ [] ∧ (∀ c ∈ cs2, c.flat = true) ∧ v = .ref p ∧ P (.t t) cs2) ∨
  (∃ F2 cs2 k p, Rl (Bs.at ad F H T) ad F2 H2 ⟨[], cs2⟩ [] ∧ (∀ c ∈ cs2, c.flat = true) ∧ ad[k]? = some p ∧ v = .ref p ∧ P (.p k) cs2) ∨
  (∃ F2 cs2 new ex xs vs p, Rl (Bs.at ad F H T) (ad ++ ex) F2 H2 ⟨[], cs2 ++ new⟩ [] ∧ cs2.length = ad.length ∧ (∀ c ∈ cs2 ++ new, c.flat = true) ∧ v = .ref p ∧ H2 p = some (.tup vs) ∧ Paired (VOk (ad ++ ex) F2) xs vs ∧ P (.u xs new) cs2)
def spA (n : Nat) (t : SpT) : Sp := fun vs H Q _ => ∃ F ad cs xs P, vs.length = n ∧ Rl (Bs.at ad F H (cs.flatMap Cell.ads)) ad F H ⟨[], cs⟩ [] ∧ Paired (VOk ad F) xs vs ∧ t xs cs P ∧ ∀ v H2, RPost ad F H (cs.flatMap Cell.ads) P v H2 → Q v H2
def retP (m : Nat) (P : RV → List Cell → Prop) (x : AVal) (s : AS) : Prop := (s.cs.take m).all Cell.flat = true ∧ match x with
  | .d y => P (.f y) (s.cs.take m)
  | .r n => if n < m then P (.p n) (s.cs.take m) else onSome s.cs[n]? fun c => match c with
    | .fz y => P (.f y) (s.cs.take m)
    | .tr t => P (.t t) (s.cs.take m)
    | .nt xs => parts m s.cs P xs
    | c => c.live = true ∧ c.flat = true ∧ P (.n c) (s.cs.take m)
  | .s _ _ => False
  | .a _ _ _ => False
def retD (m : Nat) (P : RV → List Cell → Prop) : DA := ⟨retP m P (.d .none), retP m P, fun _ => False, fun _ => False⟩
def bodyT (k : Nat) (t : Nat → TSA) : SpT := fun xs cs P => t cs.length (retD cs.length P) ⟨xs.map some ++ List.replicate k none, cs⟩
theorem Rl.cells {B : Bs} {ad : List Addr} {F H : Hp} {s : AS} {σ : St} (r : Rl B ad F H s σ) (hf : ∀ c ∈ s.cs.take B.S.length, c.flat = true) : Rl B B.S F H ⟨[], s.cs.take B.S.length⟩ [] := by
  obtain ⟨ad', e, h1⟩ := r.pre
  have hl : B.S.length ≤ s.cs.length := by rw [← r.len, e]; simp
  have inn := r.inn.take (List.take_append_drop B.S.length s.cs).symm
  rw [List.length_take, Nat.min_eq_left hl, e, List.take_left'] at inn
  · refine ⟨r.ff, r.fh, r.hh, r.al, r.new, ⟨[], by simp, (fun _ h => nomatch h)⟩, ?_, by rw [List.length_take]; omega, fun i p c h2 h3 => ?_, rfl, fun k x h => by simp at h, inn⟩
    · have := r.nd
      rw [e] at this
      exact (List.nodup_append.mp this).1
    · have hi : i < B.S.length := (List.getElem?_eq_some_iff.mp h2).1
      obtain ⟨n, l, ok⟩ := r.cel i p c (by rw [e, List.getElem?_append_left hi]; exact h2) (by rw [List.getElem?_take_of_lt hi] at h3; exact h3)
      exact ⟨n, l, ok.flat (hf c (List.mem_of_getElem? h3))⟩
  · rfl
theorem flat_two {cs : List Cell} {n m : Nat} {c : Cell} (hc : cs[n]? = some c) (hn : m ≤ n) : ((cs.take m ++ [c]).flatMap Cell.ads).Sublist (cs.flatMap Cell.ads) := by
  have e : cs = cs.take m ++ cs.drop m := (List.take_append_drop m cs).symm
  have hd : (cs.drop m)[n - m]? = some c := by rw [List.getElem?_drop, show m + (n - m) = n by omega]; exact hc
  have hs : [c].Sublist (cs.drop m) := List.singleton_sublist.mpr (List.mem_of_getElem? hd)
  have : (cs.take m ++ [c]).Sublist cs := by
    conv => rhs; rw [e]
    exact List.Sublist.append (List.Sublist.refl _) hs
  exact sublist_flatMap this
/-- the cells handed in, and one of our own -/
theorem Rl.cells2 {B : Bs} {ad : List Addr} {F H : Hp} {s : AS} {σ : St} {n : Nat} {p : Addr} {c : Cell} (r : Rl B ad F H s σ) (hf : ∀ c ∈ s.cs.take B.S.length, c.flat = true) (hn : B.S.length ≤ n) (hp : ad[n]? = some p) (hc : s.cs[n]? = some c) (hcf : c.flat = true) : Rl B (B.S ++ [p]) F H ⟨[], s.cs.take B.S.length ++ [c]⟩ [] := by
  obtain ⟨ad', e, h1⟩ := r.pre
  have hl : B.S.length ≤ s.cs.length := by rw [← r.len, e]; simp
  have hpa : p ∈ ad' := by
    rw [e, List.getElem?_append_right hn] at hp
    exact List.mem_of_getElem? hp
  have hp0 := h1 p hpa
  have sub := flat_two hc hn
  refine ⟨r.ff, r.fh, r.hh, r.al, r.new, ⟨[p], rfl, fun b hb => by rw [List.mem_singleton] at hb; exact hb ▸ hp0⟩, ?_, by simp [List.length_take]; omega, fun i q d h2 h3 => ?_, rfl, fun k x h => by simp at h, ⟨r.inn.nd.sublist sub, fun q hq i hi => ?_, fun q hq => r.inn.fr q (sub.subset hq), fun q hq => r.inn.own q (sub.subset hq), r.inn.old⟩⟩
  · have nd := r.nd
    rw [e] at nd
    rw [List.nodup_append] at nd ⊢
    exact ⟨nd.1, List.nodup_cons.mpr ⟨(fun h => nomatch h), List.nodup_nil⟩, fun a ha b hb => by
      rw [List.mem_singleton] at hb; subst hb
      exact nd.2.2 a ha b hpa⟩
  · by_cases hi : i < B.S.length
    · rw [List.getElem?_append_left hi] at h2
      rw [List.getElem?_append_left (by rw [List.length_take]; omega)] at h3
      obtain ⟨n, l, ok⟩ := r.cel i q d (by rw [e, List.getElem?_append_left hi]; exact h2) (by rw [List.getElem?_take_of_lt hi] at h3; exact h3)
      exact ⟨n, l, ok.flat (hf d (List.mem_of_getElem? h3))⟩
    · rw [List.getElem?_append_right (by omega)] at h2
      rw [List.getElem?_append_right (by rw [List.length_take]; omega)] at h3
      have e1 : q = p := by have := List.mem_of_getElem? h2; simpa using this
      have e2 : d = c := by have := List.mem_of_getElem? h3; simpa using this
      subst e1; subst e2
      obtain ⟨n, l, ok⟩ := r.cel n q d hp hc
      exact ⟨n, l, ok.flat hcf⟩
  · by_cases hi2 : i < B.S.length
    · rw [List.getElem?_append_left hi2] at hi
      have := r.inn.off q (sub.subset hq) i (by rw [e, List.getElem?_append_left hi2]; exact hi)
      rw [List.getElem?_append_left (by rw [List.length_take]; omega), List.getElem?_take_of_lt hi2]
      exact this
    · have hi3 : i = B.S.length := by
        have := (List.getElem?_eq_some_iff.mp hi).1
        rw [List.length_append, List.length_singleton] at this
        omega
      subst hi3
      rw [List.getElem?_append_right (Nat.le_refl _)] at hi
      have e1 : q = p := by have := List.mem_of_getElem? hi; simpa using this
      subst e1
      have := r.inn.off q (sub.subset hq) n hp
      rw [hc] at this
      rw [List.getElem?_append_right (by rw [List.length_take]; omega), List.length_take, Nat.min_eq_left hl, Nat.sub_self]
      simpa using this
theorem Rl.cellsN {B : Bs} {ad : List Addr} {F H : Hp} {s : AS} {σ : St} {ns : List Nat} {new : List Cell} (r : Rl B ad F H s σ) (hf : ∀ c ∈ s.cs.take B.S.length, c.flat = true) (nd : ns.Nodup) (hn : ∀ n ∈ ns, B.S.length ≤ n) (hs : subC s.cs ns = some new) (hnf : ∀ c ∈ new, c.flat = true) :
    ∃ ex, (∀ (j : Nat) n, ns[j]? = some n → ex[j]? = ad[n]?) ∧ ex.length = ns.length ∧ Rl B (B.S ++ ex) F H ⟨[], s.cs.take B.S.length ++ new⟩ [] := by
  obtain ⟨h1, h2⟩ := subC_ok hs
  obtain ⟨n1, n2⟩ := flat_nd.mp r.inn.nd
  obtain ⟨ad', e, hpre⟩ := r.pre
  have hl : B.S.length ≤ s.cs.length := by rw [← r.len, e]; simp
  have ex0 : ∀ ms : List Nat, (∀ n ∈ ms, n < ad.length) → ∃ ex : List Addr, ex.length = ms.length ∧ ∀ (j : Nat) n, ms[j]? = some n → ex[j]? = ad[n]? := by
    intro ms
    induction ms with
    | nil => intro _; exact ⟨[], rfl, fun j n h => by simp at h⟩
    | cons m ms ih =>
      intro h
      obtain ⟨a', l', e'⟩ := ih fun n hn => h n (List.mem_cons_of_mem _ hn)
      have hm := h m (List.mem_cons_self ..)
      refine ⟨ad[m] :: a', by simp [l'], fun j n hj => ?_⟩
      cases j with
      | zero =>
        have : m = n := by simpa using hj
        subst this
        simp [List.getElem?_eq_getElem hm]
      | succ j => simpa using e' j n (by simpa using hj)
  have hlt : ∀ n ∈ ns, n < ad.length := fun n hn => by
    obtain ⟨j, hj⟩ := List.mem_iff_getElem?.mp hn
    rw [r.len]; exact (h2 j n hj).2
  obtain ⟨ex, lx, hx⟩ := ex0 ns hlt
  refine ⟨ex, hx, lx, ?_⟩
  -- where an index comes from
  have from' : ∀ i, i < B.S.length + ns.length → ∃ i', (B.S ++ ex)[i]? = ad[i']? ∧ (s.cs.take B.S.length ++ new)[i]? = s.cs[i']? ∧ ((i < B.S.length ∧ i' = i) ∨ (B.S.length ≤ i ∧ ns[i - B.S.length]? = some i')) := by
    intro i hi
    by_cases him : i < B.S.length
    · refine ⟨i, ?_, ?_, .inl ⟨him, rfl⟩⟩
      · rw [List.getElem?_append_left him, e, List.getElem?_append_left him]
      · rw [List.getElem?_append_left (by rw [List.length_take]; omega), List.getElem?_take_of_lt him]
    · have hj : ns[i - B.S.length]? = some (ns[i - B.S.length]'(by omega)) := List.getElem?_eq_getElem (by omega)
      refine ⟨_, ?_, ?_, .inr ⟨by omega, hj⟩⟩
      · rw [List.getElem?_append_right (by omega), hx _ _ hj]
      · rw [List.getElem?_append_right (by rw [List.length_take]; omega), List.length_take, Nat.min_eq_left hl, (h2 _ _ hj).1]
  have inj : ∀ i j i', ((i < B.S.length ∧ i' = i) ∨ (B.S.length ≤ i ∧ ns[i - B.S.length]? = some i')) → ((j < B.S.length ∧ i' = j) ∨ (B.S.length ≤ j ∧ ns[j - B.S.length]? = some i')) → i = j := by
    intro i j i' h h'
    rcases h with ⟨h, e1⟩ | ⟨h, e1⟩ <;> rcases h' with ⟨h', e2⟩ | ⟨h', e2⟩
    · omega
    · have := hn i' (List.mem_of_getElem? e2); omega
    · have := hn i' (List.mem_of_getElem? e1); omega
    · have := (List.getElem?_inj (List.getElem?_eq_some_iff.mp e1).1 nd).mp (e1.trans e2.symm)
      omega
  have lenC : (s.cs.take B.S.length ++ new).length = B.S.length + ns.length := by rw [List.length_append, List.length_take, h1]; omega
  have lenA : (B.S ++ ex).length = B.S.length + ns.length := by rw [List.length_append, lx]
  have look : ∀ (i : Nat) c, (s.cs.take B.S.length ++ new)[i]? = some c → ∃ i', (B.S ++ ex)[i]? = ad[i']? ∧ s.cs[i']? = some c ∧ ((i < B.S.length ∧ i' = i) ∨ (B.S.length ≤ i ∧ ns[i - B.S.length]? = some i')) := fun i c hc => by
    have hi := (List.getElem?_eq_some_iff.mp hc).1
    obtain ⟨i', e1, e2, e3⟩ := from' i (by omega)
    exact ⟨i', e1, by rw [← e2]; exact hc, e3⟩
  have up : ∀ q, q ∈ (s.cs.take B.S.length ++ new).flatMap Cell.ads → q ∈ s.cs.flatMap Cell.ads := fun q hq => by
    obtain ⟨c, hc, hq⟩ := List.mem_flatMap.mp hq
    obtain ⟨i, hi⟩ := List.mem_iff_getElem?.mp hc
    obtain ⟨i', _, e2, _⟩ := look i c hi
    exact mem_ads e2 hq
  refine ⟨r.ff, r.fh, r.hh, r.al, r.new, ⟨ex, rfl, fun b hb => ?_⟩, ?_, by rw [lenA]; exact lenC.symm, fun i p c h3 h4 => ?_, rfl, fun k x h => by simp at h, ⟨flat_nd.mpr ⟨fun i c hc => ?_, fun i j c d q hc hd hqc hqd => ?_⟩, fun q hq i hi => ?_, fun q hq => r.inn.fr q (up q hq), fun q hq => r.inn.own q (up q hq), r.inn.old⟩⟩
  · obtain ⟨j, hj⟩ := List.mem_iff_getElem?.mp hb
    have hjl := (List.getElem?_eq_some_iff.mp hj).1
    have hj2 : ns[j]? = some (ns[j]'(by omega)) := List.getElem?_eq_getElem (by omega)
    rw [hx j _ hj2, e, List.getElem?_append_right (hn _ (List.mem_of_getElem? hj2))] at hj
    exact hpre b (List.mem_of_getElem? hj)
  · rw [List.nodup_iff_pairwise_ne, List.pairwise_iff_getElem]
    intro i j hi hj hij ee
    obtain ⟨i', a1, _, a3⟩ := from' i (by omega)
    obtain ⟨j', b1, _, b3⟩ := from' j (by omega)
    have g1 : ad[i']? = some (B.S ++ ex)[i] := by rw [← a1]; exact List.getElem?_eq_getElem hi
    have g2 : ad[j']? = some (B.S ++ ex)[i] := by rw [← b1, ee]; exact List.getElem?_eq_getElem hj
    have := nodup_get r.nd g1 g2
    subst this
    have := inj i j i' a3 b3
    omega
  · have h4 : (s.cs.take B.S.length ++ new)[i]? = some c := h4
    obtain ⟨i', e1, e2, _⟩ := look i c h4
    rw [e1] at h3
    obtain ⟨g1, g2, g3⟩ := r.cel i' p c h3 e2
    refine ⟨g1, g2, g3.flat ?_⟩
    rcases List.mem_append.mp (List.mem_of_getElem? h4) with h | h
    · exact hf c h
    · exact hnf c h
  · obtain ⟨i', _, e2, _⟩ := look i c hc
    exact n1 i' c e2
  · obtain ⟨i', _, e2, e3⟩ := look i c hc
    obtain ⟨j', _, f2, f3⟩ := look j d hd
    have := n2 i' j' c d q e2 f2 hqc hqd
    subst this
    exact inj i j i' e3 f3
  · have hil := (List.getElem?_eq_some_iff.mp hi).1
    obtain ⟨i', e1, e2, _⟩ := from' i (by omega)
    rw [e1] at hi
    have := r.inn.off q (up q hq) i' hi
    rw [← e2] at this
    exact this
theorem mem_refs {n : Nat} : ∀ {xs : List AVal}, AVal.r n ∈ xs → n ∈ refsOf xs
  | .r m :: xs, h => by
    rcases List.mem_cons.mp h with e | h
    · cases e; exact List.mem_cons_self ..
    · exact List.mem_cons_of_mem _ (mem_refs h)
  | .d _ :: xs, h => by
    rcases List.mem_cons.mp h with e | h
    · cases e
    · exact mem_refs (xs := xs) h
  | .s _ _ :: xs, h => by
    rcases List.mem_cons.mp h with e | h
    · cases e
    · exact mem_refs (xs := xs) h
  | .a _ _ _ :: xs, h => by
    rcases List.mem_cons.mp h with e | h
    · cases e
    · exact List.mem_cons_of_mem _ (mem_refs (xs := xs) h)
theorem paired_part {ad ad2 ex : List Addr} {F : Hp} {m : Nat} {ns : List Nat} (hm : m = ad.length) (e : ∃ ad', ad2 = ad ++ ad') (hx : ∀ (j : Nat) n, ns[j]? = some n → ex[j]? = ad2[n]?) : ∀ {xs : List AVal} {vs : List V}, (∀ n, AVal.r n ∈ xs → m ≤ n → n ∈ ns) → Paired (VOk ad2 F) xs vs → Paired (VOk (ad ++ ex) F) (xs.map (partN m ns)) vs
  | [], _, _, .nil => .nil
  | x :: xs, _, hn, .cons h t => by
    refine .cons ?_ (paired_part hm e hx (fun n hx => hn n (List.mem_cons_of_mem _ hx)) t)
    cases x with
    | d y => exact h
    | s _ _ => exact h
    | a _ _ _ => exact h
    | r n =>
      obtain ⟨a, h1, h2⟩ := h
      show VOk (ad ++ ex) F (if n < m then .r n else .r (m + ns.idxOf n)) _
      split
      · rename_i hlt
        obtain ⟨ad', rfl⟩ := e
        refine ⟨a, ?_, h2⟩
        rw [List.getElem?_append_left (by omega)] at h1 ⊢
        exact h1
      · rename_i hlt
        have hmem := hn n (List.mem_cons_self ..) (by omega)
        have hil := List.idxOf_lt_length_of_mem hmem
        have e2 : ns[ns.idxOf n]? = some n := by rw [List.getElem?_eq_getElem hil, List.getElem_idxOf]
        refine ⟨a, ?_, h2⟩
        rw [hm, List.getElem?_append_right (by omega), Nat.add_sub_cancel_left, hx _ n e2]
        exact h1
theorem ret_post {ad ad2 : List Addr} {F H F2 H2 : Hp} {s : AS} {σ : St} {x : AVal} {v : V} {P : RV → List Cell → Prop} {m : Nat} {T : List Addr} (hm : m = ad.length) (r : Rl (Bs.at ad F H T) ad2 F2 H2 s σ) (hv : VOk ad2 F2 x v) (h : retP m P x s) : RPost ad F H T P v H2 := by
  subst hm
  obtain ⟨hf, h⟩ := h
  have hf := List.all_eq_true.mp hf
  have rc := r.cells hf
  cases x with
  | s _ _ => exact h.elim
  | a _ _ _ => exact h.elim
  | d y => exact .inl ⟨F2, y, _, rc, hf, hv, h⟩
  | r n =>
    obtain ⟨p, hp, rfl⟩ := hv
    simp only at h
    split at h
    · rename_i hn
      obtain ⟨ad', e, h4⟩ := r.pre
      refine .inr (.inr (.inr (.inl ⟨F2, _, n, p, rc, hf, ?_, rfl, h⟩)))
      rw [e] at hp
      have hp : (ad ++ ad')[n]? = some p := hp
      rw [List.getElem?_append_left hn] at hp
      exact hp
    · rename_i hn
      have hn : ad.length ≤ n := by omega
      obtain ⟨c, hc, h⟩ := h
      obtain ⟨n0, l, ok⟩ := r.cel n p c hp hc
      have fz : ∀ y, c = .fz y → P (.f y) (s.cs.take ad.length) → RPost ad F H T P (.ref p) H2 := fun y e h => by
        subst e
        exact .inl ⟨F2, y, _, rc, hf, ok, h⟩
      have nw : c.live = true ∧ c.flat = true ∧ P (.n c) (s.cs.take ad.length) → RPost ad F H T P (.ref p) H2 := fun ⟨h1, h2, h3⟩ => by
        obtain ⟨ad', e, h4⟩ := r.pre
        have hpS : p ∉ ad := fun z => by
          have nd := r.nd
          rw [e] at nd hp
          have hp2 : (ad ++ ad')[n]? = some p := hp
          rw [List.getElem?_append_right hn] at hp2
          exact (List.nodup_append.mp nd).2.2 p z p (List.mem_of_getElem? hp2) rfl
        have hp0 : H p = none := by
          have hp2 : (ad ++ ad')[n]? = some p := by rw [e] at hp; exact hp
          rw [List.getElem?_append_right hn] at hp2
          exact h4 p (List.mem_of_getElem? hp2)
        have hpI : p ∉ (s.cs.take ad.length).flatMap Cell.ads := fun z => by
          have z2 : p ∈ s.cs.flatMap Cell.ads := by
            rw [← List.take_append_drop ad.length s.cs, List.flatMap_append]
            exact List.mem_append_left _ z
          rcases r.inn.off p z2 n hp with q | ⟨t, q, _⟩
          · rw [hc] at q; cases q; cases h1
          · rw [hc] at q; cases q; cases h1
        have hpT : p ∉ T := fun z => r.inn.old p z hp0
        · obtain ⟨o, ho⟩ := some_of_ne n0
          exact .inr (.inl ⟨F2, c, _, p, out H2 p, o, rc.aout hpS (l h1) hp0 hpI hpT, hf, rfl, out_same, (upd_out ho).symm, ok.flat h2, h1, h2, h3⟩)
      cases c with
      | fz y => exact fz y rfl h
      | lst _ => exact nw h
      | dK _ => exact nw h
      | pool _ => exact nw h
      | gone => exact nw h
      | nl _ => exact nw h
      | nt xs =>
        obtain ⟨ndn, new, hs, hnf, h⟩ := h
        obtain ⟨vs, hvs, hpv⟩ := ok
        have hge : ∀ k ∈ newsOf ad.length xs, ad.length ≤ k := fun k hk => of_decide_eq_true (List.mem_filter.mp hk).2
        obtain ⟨ex, hx, lx, rx⟩ := r.cellsN hf ndn hge hs (List.all_eq_true.mp hnf)
        obtain ⟨ad', e, _⟩ := r.pre
        refine .inr (.inr (.inr (.inr ⟨F2, _, new, ex, _, vs, p, rx, ?_, ?_, rfl, hvs, paired_part rfl ⟨ad', e⟩ hx (fun k hk hm => List.mem_filter.mpr ⟨mem_refs hk, decide_eq_true hm⟩) hpv, h⟩)))
        · rw [List.length_take, ← r.len, e]; simp
        · intro c hc
          rcases List.mem_append.mp hc with hc | hc
          · exact hf c hc
          · exact List.all_eq_true.mp hnf c hc
      | nd _ => exact nw h
      | dl _ _ _ => exact nw h
      | tr t => exact .inr (.inr (.inl ⟨F2, t, _, p, r.cells2 hf hn hp hc rfl, hf, rfl, h⟩))
section
variable {P : Program} {w : World} {K : PySem.W.Frag} {mg : Str → Option Value} {base : Heap}
theorem paired_slots {ad : List Addr} {F : Hp} {xs : List AVal} {vs : List V} {k : Nat} (h : Paired (VOk ad F) xs vs) : ∀ (j : Nat) (x : AVal), (xs.map some ++ List.replicate k none)[j]? = some (some x) → ∃ v, (vs.map some ++ List.replicate k none)[j]? = some (some v) ∧ VOk ad F x v := by
  intro j x hj
  have hl := Paired.len h
  by_cases hlt : j < xs.length
  · rw [List.getElem?_append_left (by simpa using hlt), List.getElem?_map] at hj
    rw [List.getElem?_append_left (by simp; omega), List.getElem?_map]
    cases hx : xs[j]? with
    | none => rw [hx] at hj; cases hj
    | some y =>
      rw [hx] at hj
      have : y = x := by simpa using hj
      subst this
      obtain ⟨v, h1, h2⟩ := Paired.get h hx
      exact ⟨v, by rw [h1]; rfl, h2⟩
  · rw [List.getElem?_append_right (by simp; omega)] at hj
    rw [List.getElem?_replicate] at hj
    split at hj <;> cases hj
theorem okA {x qual : Str} {st : Stmt} {f : Addr} {fd : FuncData} {N ps : List Str} {k : Nat} {t : Nat → TSA} (Fn : Fun K x qual st f fd) (S : FnScope N ps (defScope st))
    (hbody : ∀ (cdv : Value) (A : Around) (outer : List Env) (s : Shared) (H : Hp) (E : XK) (B : Bs), Room k (A.deeper (PyProof.Rows.envOfC qual (defScope st) s.heap.objs.size f cdv)) → SS (cxOf CX0 P w K mg base N qual (defScope st) f cdv A outer s H E).nox B (defBody st) (t B.S.length)) :
    FnOk P w K mg base CX0 (k + 1) f fd ps (spA ps.length (bodyT (N.length - ps.length) t)) :=
  okW Fn S (fun vs H Q E ⟨F, ad, cs, xs, P, hl, _⟩ => hl) fun cdv A outer s H vs Q E hr ⟨F, ad, cs, xs, P, hl, r, hp, ht, q⟩ => by
    have hsl : Rl (Bs.at ad F H (cs.flatMap Cell.ads)) ad F H ⟨xs.map some ++ List.replicate (N.length - ps.length) none, cs⟩ (start N vs) := by
      refine ⟨r.ff, r.fh, r.hh, r.al, r.new, r.pre, r.nd, r.len, r.cel, ?_, ?_, r.inn⟩
      · unfold L2.start
        simp [Paired.len hp, hl]
      · unfold L2.start
        rw [hl]
        exact paired_slots hp
    have hm : cs.length = ad.length := r.len.symm
    intro pins sh I
    have ht' : t ad.length (retD cs.length P) ⟨xs.map some ++ List.replicate (N.length - ps.length) none, cs⟩ := by rw [← hm]; exact ht
    refine thn ((hbody cdv A outer s H E (Bs.at ad F H (cs.flatMap Cell.ads)) hr).run _ _ ht' ad F H _ hsl pins sh I) fun fl s' z => ?_
    cases fl with
    | next =>
      obtain ⟨σ2, H2, I2, ad2, F2, s2, r2, h2⟩ := z
      exact ⟨σ2, H2, I2, q .non H2 (ret_post hm r2 (x := .d .none) rfl h2)⟩
    | brk => obtain ⟨σ2, H2, I2, ad2, F2, s2, r2, h2⟩ := z; exact h2.elim
    | cont => obtain ⟨σ2, H2, I2, ad2, F2, s2, r2, h2⟩ := z; exact h2.elim
    | ret u =>
      obtain ⟨v, σ2, H2, I2, rv, ad2, F2, x2, s2, σ3, r2, hv, h2⟩ := z
      exact ⟨v, σ2, H2, I2, rv, q v H2 (ret_post hm r2 hv h2)⟩
end
/-! ## calls -/
theorem putC_len : ∀ (ns : List Nat) (ds cs : List Cell), (putC cs ns ds).length = cs.length
  | [], ds, cs => by simp [putC]
  | n :: ns, [], cs => by simp [putC]
  | n :: ns, c :: ds, cs => by simp [putC, putC_len ns ds]
theorem putC_ne : ∀ {ns : List Nat} {ds cs : List Cell} {i : Nat}, i ∉ ns → (putC cs ns ds)[i]? = cs[i]?
  | [], ds, cs, i, h => by simp [putC]
  | n :: ns, [], cs, i, h => by simp [putC]
  | n :: ns, c :: ds, cs, i, h => by
    have h1 : i ≠ n := fun z => h (by simp [z])
    show (putC (cs.set n c) ns ds)[i]? = _
    rw [putC_ne (fun z => h (List.mem_cons_of_mem _ z)), List.getElem?_set_ne (fun z => h1 z.symm)]
theorem putC_at : ∀ {ns : List Nat} {ds cs : List Cell} {j n : Nat}, ns.Nodup → ds.length = ns.length → n < cs.length → ns[j]? = some n → (putC cs ns ds)[n]? = ds[j]?
  | [], ds, cs, j, n, _, _, _, h => by simp at h
  | m :: ns, [], cs, j, n, _, hl, _, h => by simp at hl
  | m :: ns, c :: ds, cs, j, n, nd, hl, hlt, h => by
    have nd' := List.nodup_cons.mp nd
    show (putC (cs.set m c) ns ds)[n]? = _
    cases j with
    | zero =>
      have : m = n := by simpa using h
      subst this
      rw [putC_ne nd'.1, List.getElem?_set_self hlt]; rfl
    | succ j =>
      simpa using putC_at (j := j) nd'.2 (by simpa using hl) (by simpa using hlt) (by simpa using h)
def callW (t : SpT) (xs : List AVal) (s : AS) (P : RV → AS → Prop) : Prop :=
  (refsOf xs).Nodup ∧ onSome (subC s.cs (refsOf xs)) fun cs => cs.all Cell.pass = true ∧ t (xs.map (ren (refsOf xs))) cs fun rv cs2 => cs2.length = cs.length → P rv ⟨s.sl, putC s.cs (refsOf xs) cs2⟩
theorem refs_mem {n : Nat} : ∀ {xs : List AVal}, AVal.r n ∈ xs → n ∈ refsOf xs
  | .r m :: xs, h => by
    rcases List.mem_cons.mp h with e | h
    · cases e; exact List.mem_cons_self ..
    · exact List.mem_cons_of_mem _ (refs_mem h)
  | .d _ :: xs, h => by
    rcases List.mem_cons.mp h with e | h
    · cases e
    · exact refs_mem (xs := xs) h
  | .s _ _ :: xs, h => by
    rcases List.mem_cons.mp h with e | h
    · cases e
    · exact refs_mem (xs := xs) h
  | .a _ _ _ :: xs, h => by
    rcases List.mem_cons.mp h with e | h
    · cases e
    · exact List.mem_cons_of_mem _ (refs_mem (xs := xs) h)
theorem Rl.sub {B : Bs} {ad : List Addr} {F H : Hp} {s : AS} {σ : St} (r : Rl B ad F H s σ) {ns : List Nat} {cs : List Cell} (nd : ns.Nodup) (hs : subC s.cs ns = some cs) (hf : ∀ c ∈ cs, c.flat = true) :
    ∃ ad', ad'.length = ns.length ∧ (∀ (j : Nat) n, ns[j]? = some n → ad'[j]? = ad[n]?) ∧ (∀ b ∈ ad', b ∈ ad) ∧ Rl (Bs.at ad' F H (cs.flatMap Cell.ads)) ad' F H ⟨[], cs⟩ [] := by
  obtain ⟨h1, h2⟩ := subC_ok hs
  have ex : ∀ ms : List Nat, (∀ n ∈ ms, n < ad.length) → ∃ ad' : List Addr, ad'.length = ms.length ∧ ∀ (j : Nat) n, ms[j]? = some n → ad'[j]? = ad[n]? := by
    intro ms
    induction ms with
    | nil => intro _; exact ⟨[], rfl, fun j n h => by simp at h⟩
    | cons m ms ih =>
      intro h
      obtain ⟨a', l', e'⟩ := ih fun n hn => h n (List.mem_cons_of_mem _ hn)
      have hm := h m (List.mem_cons_self ..)
      refine ⟨ad[m] :: a', by simp [l'], fun j n hj => ?_⟩
      cases j with
      | zero =>
        have : m = n := by simpa using hj
        subst this
        simp [List.getElem?_eq_getElem hm]
      | succ j => simpa using e' j n (by simpa using hj)
  have hlt : ∀ n ∈ ns, n < ad.length := fun n hn => by
    obtain ⟨j, hj⟩ := List.mem_iff_getElem?.mp hn
    have := (h2 j n hj).2
    rw [r.len]; exact this
  obtain ⟨ad', l', e'⟩ := ex ns hlt
  have back : ∀ (j : Nat) b, ad'[j]? = some b → ∃ n, ns[j]? = some n ∧ ad[n]? = some b := fun j b hj => by
    have hl := (List.getElem?_eq_some_iff.mp hj).1
    have hj2 : ns[j]? = some ns[j] := List.getElem?_eq_getElem (by omega)
    exact ⟨_, hj2, by rw [← e' j _ hj2]; exact hj⟩
  have sub : ∀ b ∈ ad', b ∈ ad := fun b hb => by
    obtain ⟨j, hj⟩ := List.mem_iff_getElem?.mp hb
    obtain ⟨n, _, hn⟩ := back j b hj
    exact List.mem_of_getElem? hn
  have upI : ∀ q, q ∈ cs.flatMap Cell.ads → q ∈ s.cs.flatMap Cell.ads := fun q hq => by
    obtain ⟨c, hc, hq⟩ := List.mem_flatMap.mp hq
    obtain ⟨j, hj⟩ := List.mem_iff_getElem?.mp hc
    have hl := (List.getElem?_eq_some_iff.mp hj).1
    have hj2 : ns[j]? = some ns[j] := List.getElem?_eq_getElem (by omega)
    exact mem_ads (by rw [← (h2 j _ hj2).1]; exact hj) hq
  have nsOf : ∀ (j : Nat) c, cs[j]? = some c → ∃ n, ns[j]? = some n ∧ s.cs[n]? = some c := fun j c hj => by
    have hl := (List.getElem?_eq_some_iff.mp hj).1
    have hj2 : ns[j]? = some ns[j] := List.getElem?_eq_getElem (by omega)
    exact ⟨_, hj2, by rw [← (h2 j _ hj2).1]; exact hj⟩
  obtain ⟨n1, n2⟩ := flat_nd.mp r.inn.nd
  have inn : Inn (Bs.at ad' F H (cs.flatMap Cell.ads)) ad' F H cs := by
    refine ⟨flat_nd.mpr ⟨fun j c hj => ?_, fun i j c d q hc hd hqc hqd => ?_⟩, fun q hq j hj => ?_, fun q hq => r.inn.fr q (upI q hq), fun q hq => .inr (.inl hq), fun b hb => (r.inn.fr b (upI b hb)).2⟩
    · obtain ⟨n, _, hn⟩ := nsOf j c hj
      exact n1 n c hn
    · obtain ⟨a, ha, hca⟩ := nsOf i c hc
      obtain ⟨b, hb, hdb⟩ := nsOf j d hd
      have := n2 a b c d q hca hdb hqc hqd
      subst this
      exact (List.getElem?_inj (List.getElem?_eq_some_iff.mp ha).1 nd).mp (ha.trans hb.symm)
    · obtain ⟨n, hn, hna⟩ := back j q hj
      have := r.inn.off q (upI q hq) n hna
      rw [← (h2 j n hn).1] at this
      exact this
  refine ⟨ad', l', e', sub, Same.refl _, r.fh, fun _ _ _ _ e => e, fun b hb => hb.elim (fun h => r.mem (sub b h)) (fun h => (r.inn.fr b (upI b h)).2), fun b e _ => e, ⟨[], by simp [Bs.at], (fun _ h => nomatch h)⟩, ?_, by simp [l', h1], fun j p c hj hc => ?_, rfl, fun k x h => by simp at h, inn⟩
  · rw [List.nodup_iff_pairwise_ne, List.pairwise_iff_getElem]
    intro i j hi hj hij e
    have a1 : ad'[i]? = some ad'[i] := List.getElem?_eq_getElem hi
    have a2 : ad'[j]? = some ad'[i] := by rw [List.getElem?_eq_getElem hj, e]
    obtain ⟨n, n1, n2⟩ := back i _ a1
    obtain ⟨m, m1, m2⟩ := back j _ a2
    have := nodup_get r.nd n2 m2
    subst this
    have := (List.getElem?_inj (by omega) nd).mp (n1.trans m1.symm)
    omega
  · obtain ⟨n, n1, n2⟩ := back j p hj
    have hc' : s.cs[n]? = some c := by rw [← (h2 j n n1).1]; exact hc
    obtain ⟨n0, l, ok⟩ := r.cel n p c n2 hc'
    exact ⟨n0, l, ok.flat (hf c (List.mem_of_getElem? hc))⟩
theorem Rl.unsubX {B : Bs} {ad ad' ex : List Addr} {F H F2 H2 : Hp} {s : AS} {σ : St} {ns : List Nat} {cs cs2 cx : List Cell} (r : Rl B ad F H s σ) (nd : ns.Nodup) (hs : subC s.cs ns = some cs) (hg : ∀ c ∈ cs, c ≠ .gone) (hl : ad'.length = ns.length) (he : ∀ (j : Nat) n, ns[j]? = some n → ad'[j]? = ad[n]?) (sub : ∀ b ∈ ad', b ∈ ad)
    (q : Rl (Bs.at ad' F H (cs.flatMap Cell.ads)) (ad' ++ ex) F2 H2 ⟨[], cs2 ++ cx⟩ []) (hl2 : cs2.length = ns.length) (hf : ∀ c ∈ cs2 ++ cx, c.flat = true) : Rl B (ad ++ ex) F2 H2 ⟨s.sl, putC s.cs ns cs2 ++ cx⟩ σ := by
  obtain ⟨h1, h2⟩ := subC_ok hs
  obtain ⟨n1, n2⟩ := flat_nd.mp r.inn.nd
  obtain ⟨m1, m2⟩ := flat_nd.mp q.inn.nd
  have hlx : ex.length = cx.length := by
    have := q.len
    simp only [List.length_append] at this
    omega
  have hex : ∀ b ∈ ex, H b = none := fun b hb => by
    obtain ⟨a3, e3, h3⟩ := q.pre
    have e4 : ex = a3 := List.append_cancel_left e3
    exact h3 b (e4 ▸ hb)
  have nsOf : ∀ (j : Nat) n, ns[j]? = some n → ∃ c, s.cs[n]? = some c ∧ c ∈ cs := fun j n hj => by
    have hjl := (List.getElem?_eq_some_iff.mp hj).1
    have e1 : cs[j]? = some cs[j] := List.getElem?_eq_getElem (by omega)
    exact ⟨_, by rw [← (h2 j n hj).1]; exact e1, List.mem_of_getElem? e1⟩
  have csOf : ∀ x, x ∈ cs.flatMap Cell.ads → ∃ n c, n ∈ ns ∧ s.cs[n]? = some c ∧ x ∈ c.ads := fun x hx => by
    obtain ⟨c, hc, hx⟩ := List.mem_flatMap.mp hx
    obtain ⟨j, hj⟩ := List.mem_iff_getElem?.mp hc
    have hjl := (List.getElem?_eq_some_iff.mp hj).1
    have hj2 : ns[j]? = some ns[j] := List.getElem?_eq_getElem (by omega)
    exact ⟨_, c, List.mem_of_getElem? hj2, by rw [← (h2 j _ hj2).1]; exact hj, hx⟩
  have adOf : ∀ x, x ∈ ad' → ∃ n c, n ∈ ns ∧ ad[n]? = some x ∧ s.cs[n]? = some c ∧ c ∈ cs := fun x hx => by
    obtain ⟨j, hj⟩ := List.mem_iff_getElem?.mp hx
    have hjl := (List.getElem?_eq_some_iff.mp hj).1
    have hj2 : ns[j]? = some ns[j] := List.getElem?_eq_getElem (by omega)
    obtain ⟨c, hc, hm⟩ := nsOf j _ hj2
    exact ⟨_, c, List.mem_of_getElem? hj2, by rw [← he j _ hj2]; exact hj, hc, hm⟩
  -- a tree's address that is not among those handed in
  have offS : ∀ (i : Nat) c x, i ∉ ns → s.cs[i]? = some c → x ∈ c.ads → x ∉ ad' ∧ x ∉ cs.flatMap Cell.ads := fun i c x hi hc hx => by
    refine ⟨fun z => ?_, fun z => ?_⟩
    · obtain ⟨n, d, hn, hna, hnd, hm⟩ := adOf x z
      rcases r.inn.off x (mem_ads hc hx) n hna with e | ⟨t, e, et⟩
      · rw [hnd] at e; cases e; exact hg _ hm rfl
      · have hxt : x ∈ (Cell.tr t).ads := by
          cases t with
          | d _ => cases et
          | nd k a xs => cases et; exact List.mem_cons_self ..
        exact hi (n2 i n c _ x hc e hx hxt ▸ hn)
    · obtain ⟨n, d, hn, hnd, hxd⟩ := csOf x z
      exact hi (n2 i n c d x hc hnd hx hxd ▸ hn)
  have look : ∀ (i : Nat) c, (putC s.cs ns cs2 ++ cx)[i]? = some c → (i ∉ ns ∧ s.cs[i]? = some c) ∨ ∃ j, (cs2 ++ cx)[j]? = some c ∧ (ns[j]? = some i ∨ (ns.length ≤ j ∧ i = s.cs.length + (j - ns.length))) := by
    intro i c hc
    by_cases hil : i < s.cs.length
    · rw [List.getElem?_append_left (by rw [putC_len]; exact hil)] at hc
      by_cases hi : i ∈ ns
      · obtain ⟨j, hj⟩ := List.mem_iff_getElem?.mp hi
        have hjl := (List.getElem?_eq_some_iff.mp hj).1
        rw [putC_at nd hl2 hil hj] at hc
        exact .inr ⟨j, by rw [List.getElem?_append_left (by omega)]; exact hc, .inl hj⟩
      · rw [putC_ne hi] at hc
        exact .inl ⟨hi, hc⟩
    · rw [List.getElem?_append_right (by rw [putC_len]; omega), putC_len] at hc
      refine .inr ⟨ns.length + (i - s.cs.length), ?_, .inr ⟨by omega, by omega⟩⟩
      rw [List.getElem?_append_right (by omega), hl2, Nat.add_sub_cancel_left]
      exact hc
  -- where an address of all stands
  have lookA : ∀ (i : Nat) x, (ad ++ ex)[i]? = some x → (i ∉ ns ∧ ad[i]? = some x ∧ (putC s.cs ns cs2 ++ cx)[i]? = s.cs[i]?) ∨ ∃ j, (ad' ++ ex)[j]? = some x ∧ (putC s.cs ns cs2 ++ cx)[i]? = (cs2 ++ cx)[j]? ∧ (ns[j]? = some i ∨ (ns.length ≤ j ∧ i = s.cs.length + (j - ns.length))) := by
    intro i x hx
    have hal := r.len
    by_cases hil : i < s.cs.length
    · rw [List.getElem?_append_left (by omega)] at hx
      by_cases hi : i ∈ ns
      · obtain ⟨j, hj⟩ := List.mem_iff_getElem?.mp hi
        have hjl := (List.getElem?_eq_some_iff.mp hj).1
        refine .inr ⟨j, by rw [List.getElem?_append_left (by omega), he j i hj]; exact hx, ?_, .inl hj⟩
        rw [List.getElem?_append_left (by rw [putC_len]; exact hil), putC_at nd hl2 hil hj, List.getElem?_append_left (by omega)]
      · exact .inl ⟨hi, hx, by rw [List.getElem?_append_left (by rw [putC_len]; exact hil), putC_ne hi]⟩
    · rw [List.getElem?_append_right (by omega)] at hx
      refine .inr ⟨ns.length + (i - s.cs.length), ?_, ?_, .inr ⟨by omega, by omega⟩⟩
      · rw [List.getElem?_append_right (by omega), hl, Nat.add_sub_cancel_left, ← hal]; exact hx
      · rw [List.getElem?_append_right (by rw [putC_len]; omega), putC_len, List.getElem?_append_right (by omega), hl2, Nat.add_sub_cancel_left]
  have inj : ∀ (j i i' : Nat), (ns[j]? = some i ∨ (ns.length ≤ j ∧ i = s.cs.length + (j - ns.length))) → (ns[j]? = some i' ∨ (ns.length ≤ j ∧ i' = s.cs.length + (j - ns.length))) → i = i' := by
    intro j i i' h h'
    rcases h with h | ⟨h, e⟩ <;> rcases h' with h' | ⟨h', e'⟩
    · rw [h] at h'; exact Option.some.inj h'
    · have := (List.getElem?_eq_some_iff.mp h).1; omega
    · have := (List.getElem?_eq_some_iff.mp h').1; omega
    · omega
  have ownJ : ∀ x, x ∈ (cs2 ++ cx).flatMap Cell.ads → x ∈ ad' ∨ x ∈ cs.flatMap Cell.ads ∨ H x = none := q.inn.own
  have inn : Inn B (ad ++ ex) F2 H2 (putC s.cs ns cs2 ++ cx) := by
    refine ⟨flat_nd.mpr ⟨fun i c hc => ?_, fun i i' c d x hc hd hxc hxd => ?_⟩, fun x hx i hi => ?_, fun x hx => ?_, fun x hx => ?_, r.inn.old⟩
    · rcases look i c hc with ⟨_, h⟩ | ⟨j, h, _⟩
      · exact n1 i c h
      · exact m1 j c h
    · have mix : ∀ (a : Nat) (j : Nat) c d, a ∉ ns → s.cs[a]? = some c → (cs2 ++ cx)[j]? = some d → x ∈ c.ads → x ∈ d.ads → False := fun a j c d ha hc hd hxc hxd => by
        obtain ⟨o1, o2⟩ := offS a c x ha hc hxc
        rcases ownJ x (mem_ads hd hxd) with z | z | z
        · exact o1 z
        · exact o2 z
        · exact (r.inn.fr x (mem_ads hc hxc)).2 z
      rcases look i c hc with ⟨hi, h⟩ | ⟨j, h, hj⟩ <;> rcases look i' d hd with ⟨hi', h'⟩ | ⟨j', h', hj'⟩
      · exact n2 i i' c d x h h' hxc hxd
      · exact (mix i j' c d hi h h' hxc hxd).elim
      · exact (mix i' j d c hi' h' h hxd hxc).elim
      · have := m2 j j' c d x h h' hxc hxd
        subst this
        exact inj j i i' hj hj'
    · obtain ⟨c, hc, hxc⟩ := List.mem_flatMap.mp hx
      obtain ⟨i0, hi0⟩ := List.mem_iff_getElem?.mp hc
      rcases lookA i x hi with ⟨hin, hia, e⟩ | ⟨j, hj, e, hji⟩
      · rw [e]
        rcases look i0 c hi0 with ⟨h0, h0c⟩ | ⟨j0, h0c, _⟩
        · exact r.inn.off x (mem_ads h0c hxc) i hia
        · rcases ownJ x (mem_ads h0c hxc) with z | z | z
          · obtain ⟨n, d, hn, hna, _⟩ := adOf x z
            exact absurd (nodup_get r.nd hia hna ▸ hn) hin
          · obtain ⟨n, d, hn, hnd, hxd⟩ := csOf x z
            exact r.inn.off x (mem_ads hnd hxd) i hia
          · exact absurd z (r.mem (List.mem_of_getElem? hia))
      · rw [e]
        rcases look i0 c hi0 with ⟨h0, h0c⟩ | ⟨j0, h0c, _⟩
        · obtain ⟨o1, o2⟩ := offS i0 c x h0 h0c hxc
          rcases List.mem_append.mp (List.mem_of_getElem? hj) with z | z
          · exact absurd z o1
          · exact absurd (hex x z) (r.inn.fr x (mem_ads h0c hxc)).2
        · exact q.inn.off x (mem_ads h0c hxc) j hj
    · obtain ⟨c, hc, hxc⟩ := List.mem_flatMap.mp hx
      obtain ⟨i0, hi0⟩ := List.mem_iff_getElem?.mp hc
      rcases look i0 c hi0 with ⟨h0, h0c⟩ | ⟨j0, h0c, _⟩
      · obtain ⟨f1, f2⟩ := r.inn.fr x (mem_ads h0c hxc)
        exact ⟨q.new x f1 f2, q.there f2⟩
      · exact q.inn.fr x (mem_ads h0c hxc)
    · obtain ⟨c, hc, hxc⟩ := List.mem_flatMap.mp hx
      obtain ⟨i0, hi0⟩ := List.mem_iff_getElem?.mp hc
      rcases look i0 c hi0 with ⟨h0, h0c⟩ | ⟨j0, h0c, _⟩
      · exact r.inn.own x (mem_ads h0c hxc)
      · rcases ownJ x (mem_ads h0c hxc) with z | z | z
        · exact (r.inS (sub x z)).elim .inl fun z => .inr (.inr z)
        · obtain ⟨n, d, hn, hnd, hxd⟩ := csOf x z
          exact r.inn.own x (mem_ads hnd hxd)
        · exact .inr (.inr (r.fresh z).1)
  refine ⟨r.ff.trans q.ff, q.fh, fun b o hb ht e => ?_, fun b hb => q.there (r.al b hb), fun b e n => q.new b (r.new b e n) (r.there n), ?_, ?_, ?_, fun i p c h3 h4 => ?_, r.sln, fun k x h => ?_, inn⟩
  · refine q.hh b o (fun z => ?_) (fun z => ?_) (r.hh b o hb ht e)
    · rcases r.inS (sub b z) with z | z
      · exact hb z
      · rw [z] at e; cases e
    · obtain ⟨n, d, hn, hnd, hxd⟩ := csOf b z
      rcases r.inn.own b (mem_ads hnd hxd) with z | z | z
      · exact hb z
      · exact ht z
      · rw [z] at e; cases e
  · obtain ⟨a3, e3, h5⟩ := r.pre
    refine ⟨a3 ++ ex, by rw [e3, List.append_assoc], fun b hb => ?_⟩
    rcases List.mem_append.mp hb with hb | hb
    · exact h5 b hb
    · exact (r.fresh (hex b hb)).1
  · rw [List.nodup_append]
    refine ⟨r.nd, (List.nodup_append.mp q.nd).2.1, fun a ha b hb e => ?_⟩
    subst e
    exact r.mem ha (hex a hb)
  · show (ad ++ ex).length = (putC s.cs ns cs2 ++ cx).length
    rw [List.length_append, List.length_append, putC_len, r.len, hlx]
  · rcases lookA i p h3 with ⟨hi, hia, e⟩ | ⟨j, hj, e, _⟩
    · have h4 : (putC s.cs ns cs2 ++ cx)[i]? = some c := h4
      rw [e] at h4
      obtain ⟨n0, l, ok⟩ := r.cel i p c hia h4
      by_cases hgn : c = .gone
      · subst hgn
        exact ⟨q.there n0, (fun z => by cases z), trivial⟩
      · have hp : p ∉ ad' := fun z => by
          obtain ⟨n, d, hn, hna, _⟩ := adOf p z
          exact hi (nodup_get r.nd hia hna ▸ hn)
        have hpT : p ∉ cs.flatMap Cell.ads := fun z => by
          obtain ⟨n, d, hn, hnd, hxd⟩ := csOf p z
          rcases r.inn.off p (mem_ads hnd hxd) i hia with e | ⟨t, e, et⟩
          · rw [h4] at e; exact hgn (Option.some.inj e)
          · have hxt : p ∈ (Cell.tr t).ads := by
              cases t with
              | d _ => cases et
              | nd k a xs => cases et; exact List.mem_cons_self ..
            exact hi (n2 i n _ d p e hnd hxt hxd ▸ hn)
        have keep : ∀ o, H p = some o → H2 p = some o := fun o e => q.hh p o hp hpT e
        exact ⟨q.there n0, fun z => q.new p (l z) n0, ok.mono ⟨ex, rfl⟩ q.ff keep fun x hx o ho => q.hh x o (offS i c x hi h4 hx).1 (offS i c x hi h4 hx).2 ho⟩
    · have h4 : (putC s.cs ns cs2 ++ cx)[i]? = some c := h4
      rw [e] at h4
      obtain ⟨n0, l, ok⟩ := q.cel j p c hj h4
      exact ⟨n0, l, ok.flat (hf c (List.mem_of_getElem? h4))⟩
  · obtain ⟨v, h5, h6⟩ := r.slt k x h
    exact ⟨v, h5, h6.mono ⟨ex, rfl⟩ q.ff⟩
theorem Rl.unsub {B : Bs} {ad ad' : List Addr} {F H F2 H2 : Hp} {s : AS} {σ : St} {ns : List Nat} {cs cs2 : List Cell} (r : Rl B ad F H s σ) (nd : ns.Nodup) (hs : subC s.cs ns = some cs) (hg : ∀ c ∈ cs, c ≠ .gone) (hl : ad'.length = ns.length) (he : ∀ (j : Nat) n, ns[j]? = some n → ad'[j]? = ad[n]?) (sub : ∀ b ∈ ad', b ∈ ad)
    (q : Rl (Bs.at ad' F H (cs.flatMap Cell.ads)) ad' F2 H2 ⟨[], cs2⟩ []) (hf : ∀ c ∈ cs2, c.flat = true) : Rl B ad F2 H2 ⟨s.sl, putC s.cs ns cs2⟩ σ := by
  have := r.unsubX (ex := []) (cx := []) nd hs hg hl he sub (by simpa using q) (by rw [← hl]; exact q.len.symm) (by simpa using hf)
  simpa using this
theorem paired_ren {ad ad' : List Addr} {F : Hp} {ns : List Nat} (he : ∀ (j : Nat) n, ns[j]? = some n → ad'[j]? = ad[n]?) : ∀ {xs : List AVal} {vs : List V}, (∀ n, AVal.r n ∈ xs → n ∈ ns) → Paired (VOk ad F) xs vs → Paired (VOk ad' F) (xs.map (ren ns)) vs
  | [], _, _, .nil => .nil
  | x :: xs, _, hn, .cons h t => by
    refine .cons ?_ (paired_ren he (fun n hx => hn n (List.mem_cons_of_mem _ hx)) t)
    cases x with
    | d y => exact h
    | s _ _ => exact h
    | a _ _ _ => exact h
    | r n =>
      obtain ⟨a, h1, h2⟩ := h
      have hm := hn n (List.mem_cons_self ..)
      refine ⟨a, ?_, h2⟩
      have hlt := List.idxOf_lt_length_of_mem hm
      have e : ns[ns.idxOf n]? = some n := by rw [List.getElem?_eq_getElem hlt, List.getElem_idxOf]
      rw [he _ n e]
      exact h1
/-- what a call leaves -/
def resF (Q : VQ) : RV → AS → Prop := fun rv s => match rv with
  | .f x => Q (.d x) s
  | .n c => onSome (frzC c) fun d => Q (.d d) s
  | .t _ => False
  | .p _ => False
  | .u _ _ => False
def resO (ns : List Nat) (Q : VQ) : RV → AS → Prop := fun rv s => match rv with
  | .f x => Q (.d x) s
  | .n c => Q (.r s.cs.length) ⟨s.sl, s.cs ++ [c]⟩
  | .t t => Q (.r s.cs.length) ⟨s.sl, s.cs ++ [.tr t]⟩
  | .p k => onSome ns[k]? fun n => Q (.r n) s
  | .u _ _ => False
/-- a tuple taken apart behind a call -/
def backN (m : Nat) (ns : List Nat) (w : Nat) : AVal → Option AVal
  | .r n => if n < m then (ns[n]?).map .r else some (.r (w + (n - m)))
  | .d x => some (.d x)
  | _ => none
def backs (m : Nat) (ns : List Nat) (w : Nat) : List AVal → Option (List AVal)
  | [] => some []
  | x :: xs => (backN m ns w x).bind fun y => (backs m ns w xs).map (y :: ·)
def resU (ns : List Nat) (Q : List AVal → AS → Prop) : RV → AS → Prop := fun rv s => match rv with
  | .u xs new => onSome (backs ns.length ns s.cs.length xs) fun ys => Q ys ⟨s.sl, s.cs ++ new⟩
  | .f (.tuple ds) => Q (ds.map .d) s
  | _ => False
def callF (t : SpT) (tl : TLA) : TEA := fun s Q => tl s fun xs s1 => callW t xs s1 (resF Q)
def callO (t : SpT) (tl : TLA) : TEA := fun s Q => tl s fun xs s1 => callW t xs s1 (resO (refsOf xs) Q)
section
variable {X : Cx} {B : Bs} {e : Expr} {es : List Expr} {k n : Nat} {f : Addr} {fd : FuncData} {ps : List Str} {t : SpT} {x : Str} {p pos : Pos} {tl : TLA} {σ : St}
theorem call_post {ad : List Addr} {F H : Hp} {s : AS} {xs : List AVal} {vs : List V} {P : RV → AS → Prop} {Q : VK} (hn : vs.length = n) (r : Rl B ad F H s σ) (hv : Paired (VOk ad F) xs vs) (h : callW t xs s P)
    (hF : ∀ F2 H2 y v s2, Rl B ad F2 H2 s2 σ → Same F F2 → Da F2 y v → P (.f y) s2 → Q v H2)
    (hN : ∀ F2 H1 H2 c p o s2, Rl B ad F2 H1 s2 σ → Same F F2 → H1 p = none → H2 = upd H1 p o → COk ad F2 H2 p c → c.live = true → P (.n c) s2 → Q (.ref p) H2)
    (hT : ∀ F2 H2 t p s2, Rl B (ad ++ [p]) F2 H2 ⟨s2.sl, s2.cs ++ [.tr t]⟩ σ → s2.cs.length = ad.length → Same F F2 → P (.t t) s2 → Q (.ref p) H2)
    (hP : ∀ F2 H2 k n p s2, Rl B ad F2 H2 s2 σ → Same F F2 → (refsOf xs)[k]? = some n → ad[n]? = some p → P (.p k) s2 → Q (.ref p) H2)
    (hU : ∀ F2 H2 ex new ad' ys ws p s2, Rl B (ad ++ ex) F2 H2 ⟨s2.sl, s2.cs ++ new⟩ σ → s2.cs.length = ad.length → Same F F2 → ad'.length = (refsOf xs).length → (∀ (j : Nat) n, (refsOf xs)[j]? = some n → ad'[j]? = ad[n]?) → H2 p = some (.tup ws) → Paired (VOk (ad' ++ ex) F2) ys ws → P (.u ys new) s2 → Q (.ref p) H2) : spA n t vs H Q E0 := by
  obtain ⟨nd, cs, hs, hf, ht⟩ := h
  have hf := List.all_eq_true.mp hf
  have hg : ∀ c ∈ cs, c ≠ .gone := fun c hc => pass_gone (hf c hc)
  obtain ⟨ad', hl, he, sub, rs⟩ := r.sub nd hs fun c hc => pass_flat (hf c hc)
  have hcl : cs.length = ad'.length := rs.len.symm
  refine ⟨F, ad', cs, xs.map (ren (refsOf xs)), _, hn, rs, paired_ren he (fun n hx => refs_mem hx) hv, ht, fun v H2 hp => ?_⟩
  rcases hp with ⟨F2, y, cs2, r2, hf2, hd, hp⟩ | ⟨F2, c, cs2, p, H1, o, r2, hf2, rfl, hp1, e2, ok, hlv, hfl, hp⟩ | ⟨F2, t, cs2, p, r2, hf2, rfl, hp⟩ | ⟨F2, cs2, k, p, r2, hf2, hk, rfl, hp⟩ | ⟨F2, cs2, new, ex, ys, ws, p, r2, hl3, hf2, rfl, hpt, hys, hp⟩
  · exact hF F2 H2 y v _ (r.unsub nd hs hg hl he sub r2 hf2) r2.ff hd (hp (by rw [hcl]; exact r2.len.symm))
  · exact hN F2 H1 H2 c p o _ (r.unsub nd hs hg hl he sub r2 hf2) r2.ff hp1 e2 (ok.flat hfl) hlv (hp (by rw [hcl]; exact r2.len.symm))
  · have hl3 : cs2.length = ad'.length := by
      have := r2.len
      simp only [List.length_append, List.length_singleton] at this
      omega
    refine hT F2 H2 t p _ (r.unsubX nd hs hg hl he sub r2 (by omega) (fun c hc => ?_)) ?_ r2.ff (hp (by rw [hcl]; exact hl3))
    · rcases List.mem_append.mp hc with hc | hc
      · exact hf2 c hc
      · rw [List.mem_singleton] at hc; subst hc; rfl
    · show (putC s.cs (refsOf xs) cs2).length = _
      rw [putC_len]; exact r.len.symm
  · have hkl := (List.getElem?_eq_some_iff.mp hk).1
    have hj : (refsOf xs)[k]? = some (refsOf xs)[k] := List.getElem?_eq_getElem (by omega)
    refine hP F2 H2 k _ p _ (r.unsub nd hs hg hl he sub r2 hf2) r2.ff hj ?_ (hp (by rw [hcl]; exact r2.len.symm))
    rw [← he k _ hj]; exact hk
  · refine hU F2 H2 ex new ad' ys ws p _ (r.unsubX nd hs hg hl he sub r2 (by omega) hf2) ?_ r2.ff hl he hpt hys (hp (by rw [hcl]; exact hl3))
    show (putC s.cs (refsOf xs) cs2).length = _
    rw [putC_len]; exact r.len.symm
theorem ea_callF (G : FnOk X.prog X.w X.K X.mg X.base CX0 k f fd ps (spA n t)) (hr : Room k X.A) (hm : X.mg x = some (.ref f)) (hk : PySem.W.keepIn X.K (.ref f) = true) (hb : Binds X.K fd ps []) (ha : EL X B (e :: es) tl)
    (hn : (e :: es).length = n := by rfl) (hg : Gl X x := by rfl) (hdb : (x == ("__debug__" : Str)) = false := by decide) (l : Pl X e es pos := by exact ⟨rfl, rfl⟩) : EA X B (.Call (.Name x p) (e :: es) [] pos) (callF t tl) := ⟨fun ad F H s σ Q r h =>
  we_of (pe_call G hr hg hm hk hb .nil pass0 pa_wa hdb l.he l.hpl) ((ha.run ad F H s σ _ r h).imp fun vs H1 q => by
    obtain ⟨ad1, F1, xs, s1, e1, k1, r1, hv, hxl, q⟩ := q
    show spA n t (vs ++ []) H1 _ E0
    rw [List.append_nil]
    exact call_post (by rw [← Paired.len hv, hxl]; exact hn) r1 hv q (fun F2 H2 y v s2 r2 k2 hd hp => ⟨ad1, F2, .d y, s2, e1, k1.trans k2, r2, hd, hp⟩)
      (fun F2 H2 H3 c p o s2 r2 k2 hp e3 ok hl hP => PostN.frz (Q := Q) ⟨ad1, F2, c, s2, p, H2, o, e1, k1.trans k2, r2, rfl, hp, e3, ok, hl, hP⟩) (fun F2 H2 t p s2 _ _ _ h => h.elim) (fun F2 H2 k n p s2 _ _ _ _ h => h.elim) (fun F2 H2 ex new ad' ys ws p s2 _ _ _ _ _ _ _ h => h.elim))⟩
theorem ea_callO (G : FnOk X.prog X.w X.K X.mg X.base CX0 k f fd ps (spA n t)) (hr : Room k X.A) (hm : X.mg x = some (.ref f)) (hk : PySem.W.keepIn X.K (.ref f) = true) (hb : Binds X.K fd ps []) (ha : EL X B (e :: es) tl)
    (hn : (e :: es).length = n := by rfl) (hg : Gl X x := by rfl) (hdb : (x == ("__debug__" : Str)) = false := by decide) (l : Pl X e es pos := by exact ⟨rfl, rfl⟩) : EA X B (.Call (.Name x p) (e :: es) [] pos) (callO t tl) := ⟨fun ad F H s σ Q r h =>
  we_of (pe_call G hr hg hm hk hb .nil pass0 pa_wa hdb l.he l.hpl) ((ha.run ad F H s σ _ r h).imp fun vs H1 q => by
    obtain ⟨ad1, F1, xs, s1, e1, k1, r1, hv, hxl, q⟩ := q
    show spA n t (vs ++ []) H1 _ E0
    rw [List.append_nil]
    exact call_post (by rw [← Paired.len hv, hxl]; exact hn) r1 hv q (fun F2 H2 y v s2 r2 k2 hd hp => ⟨ad1, F2, .d y, s2, e1, k1.trans k2, r2, hd, hp⟩)
      (fun F2 H2 H3 c p o s2 r2 k2 hp e3 ok hl hP => PostN.owned (Q := Q) ⟨ad1, F2, c, s2, p, H2, o, e1, k1.trans k2, r2, rfl, hp, e3, ok, hl, hP⟩)
      (fun F2 H2 t p s2 r2 hl2 k2 hP => ⟨ad1 ++ [p], F2, .r s2.cs.length, _, e1.trans ⟨[p], rfl⟩, k1.trans k2, r2, ⟨p, by rw [hl2]; simp, rfl⟩, hP⟩)
      (fun F2 H2 k n p s2 r2 k2 hk hp ⟨n', hn', hP⟩ => ⟨ad1, F2, .r n, s2, e1, k1.trans k2, r2, ⟨p, hp, rfl⟩, by rw [hk] at hn'; cases hn'; exact hP⟩) (fun F2 H2 ex new ad' ys ws p s2 _ _ _ _ _ _ _ h => h.elim))⟩
def callU (t : SpT) (tl : TLA) (g : List AVal → AS → (AS → Prop) → Prop) : TSA := fun D s => tl s fun xs s1 => callW t xs s1 (resU (refsOf xs) fun ys s2 => g ys s2 D.nx)
end
end Kr
/-! layer A7 -/
namespace Kr
open PySem L2
section
variable {X : Cx} {B : Bs} {ad : List Addr} {F H : Hp} {s : AS} {σ : St} {x y : AVal} {u v : V} {a b c e f o : Expr} {es : List Expr} {pos p p2 q q2 apos cpos tpos : Pos} {ta tb tc to : TEA} {tl : TLA}
/-! ## items -/
def rAnyI (X : Cx) : R2 := fun u v H Q => ∃ r, IxR X r ∧ r u v H Q
theorem ix_any : IxR X (rAnyI X) := fun value slice pins s σ H x y v u Q I rx ry ⟨r, h, q⟩ hs => h value slice pins s σ H x y v u Q I rx ry q hs
open PySem.Spec PyProof.Rows in
theorem ix_dict (hu : X.A.units + 1 < cLine) : IxR X (fun x y H Q => ∃ a v, x = .ref a ∧ DGet H a y (some v) ∧ Q v H) := by
  intro value slice pins s σ H x y v u Q I rx ry h hs
  obtain ⟨a, w, rfl, g, q⟩ := h
  cases rx
  have hT := dict_typeIs I g
  unfold subscriptTail
  refine wpAny_bind ?_
  rw [getitemInPython_of_ne hT.not_modules]
  refine wpAny_bind (wpAny_specialOf hT PySem.F.slot_dict_getitem.lookup ?_)
  have fin : wpAny (model X.prog X.w) X.A (subscripted slice false (.ref a) u) (fun r s₃ => wpAny (model X.prog X.w) X.A (letTemporaryGo value (.ref a) r >>= fun _ => pure r) (EP X pins σ Q) X.xe s₃) X.xe s := by
    rw [hs]
    exact wpAny_operating (d_getItem hu I g ry fun w' s3 I3 rw' => wpAny_bind (wpAny_letTemporaryGo (wpAny_pure ⟨w, H, I3, rw', q⟩)))
  first
    | exact wpAny_pure (wpAny_bind fin)
    | exact wpAny_bind (wpAny_pure (wpAny_bind fin))
    | exact wpAny_bind fin
def ixA : AVal → AVal → TEA := fun x y s Q => match view s x with
  | .seq xs => onSome y.int? fun i => onSome (L2.atI xs i) fun z => Q z s
  | .dct kvs => onSome y.key? fun k => onSome (getA kvs k) fun z => Q z s
  | .txt z => onSome y.int? fun i => z.length ≤ sizeLine ∧ onSome (L2.atI z.cps.toList i) fun c => Q (.d (.str ⟨#[c]⟩)) s
  | .oth => False
theorem ea_ix (hu : X.A.units + 1 < cLine) (ha : EA X B a ta) (hb : EA X B b tb) (hs : PlainIx b := by exact fun _ _ => rfl) : EA X B (.Subscript a b pos) (opA ixA ta tb) := ⟨fun ad F H s σ Q r t =>
  we_of (pe_ix ix_any pe_we pe_we hs) (we2 (R := fun u v H2 => rAnyI X u v H2 (Post B ad F σ Q)) (K := Post B ad F σ Q) ha hb r t fun ad2 F2 H2 s2 x y u v e k r2 hu2 hv t2 => by
    unfold ixA at t2
    split at t2
    · rename_i xs hx
      obtain ⟨i, ei, z, ez, q⟩ := t2
      have := AVal.int?_of ei
      subst this
      obtain ⟨l, vs, rfl, hl, hp⟩ := hu2.seq r2 hx
      obtain ⟨w, hw, hz⟩ := Paired.atI hp ez
      rcases hl with hl | hl
      · exact ⟨_, ix_list, l, vs, i, w, rfl, hv, SqL.of hl, hw, (Post.here r2 hz q).up e k⟩
      · exact ⟨_, ix_tup, l, vs, i, w, rfl, hv, SqT.of hl, hw, (Post.here r2 hz q).up e k⟩
    · rename_i kvs hx
      obtain ⟨k2, ek, z, ez, q⟩ := t2
      obtain ⟨l, es, rfl, hl, hp⟩ := hu2.dct r2 hx
      have hk := AVal.key?_ok ek hv
      subst hk
      have hg := hp.get (k := k2)
      rw [ez] at hg
      obtain ⟨w, hw, hz⟩ := hg
      exact ⟨_, ix_dict hu, l, w, rfl, hw ▸ .inl ⟨es, _, hl, rfl, rfl⟩, (Post.here r2 hz q).up e k⟩
    · rename_i z hx
      obtain ⟨i, ei, hz, c, ec, q⟩ := t2
      have := AVal.int?_of ei
      subst this
      have := hu2.txt r2 hx
      subst this
      exact ⟨_, ix_str, z, i, c, rfl, hv, hz, ec, (Post.here (x := .d (.str ⟨#[c]⟩)) r2 rfl q).up e k⟩
    · exact t2.elim)⟩
/-! ## slices -/
def cutD (ds : List PyData) (lo hi : Option Int) : List PyData := (ds.drop (HT.sIx ds.length 0 lo)).take (HT.sIx ds.length ds.length hi - HT.sIx ds.length 0 lo)
def slA (lo hi : Option Int) (x : AVal) : TEA := fun s Q => match view s x with
  | .txt z => z.length ≤ sizeLine ∧ Q (.d (.str (cutS z lo hi))) s
  | _ => onSome (listOf s x) fun ds => Q (.d (.list (cutD ds lo hi))) s
def slN (lo hi : Option Int) (x : AVal) : TNA := fun s Q => onSome (listOf s x) fun ds => Q (.lst (cutD ds lo hi)) s
def slHi (ta tb : TEA) : TEA := fun s Q => ta s fun x s1 => tb s1 fun y s2 => onSome y.int? fun i => slA none (some i) x s2 Q
def slLo (ta tb : TEA) : TEA := fun s Q => ta s fun x s1 => tb s1 fun y s2 => onSome y.int? fun i => slA (some i) none x s2 Q
def slHiN (ta tb : TEA) : TNA := fun s Q => ta s fun x s1 => tb s1 fun y s2 => onSome y.int? fun i => slN none (some i) x s2 Q
def slLoN (ta tb : TEA) : TNA := fun s Q => ta s fun x s1 => tb s1 fun y s2 => onSome y.int? fun i => slN (some i) none x s2 Q
/-! ## in, not in -/
def flatD : PyData → Bool
  | .none => true
  | .bool _ => true
  | .int _ => true
  | .str _ => true
  | _ => false
def eqF : PyData → PyData → Bool
  | .none, .none => true
  | .bool a, .bool b => a == b
  | .bool a, .int b => (if a then 1 else 0) == b
  | .int a, .bool b => a == (if b then 1 else 0)
  | .int a, .int b => a == b
  | .str a, .str b => a == b
  | _, _ => false
def inD (x : PyData) (ds : List PyData) : Bool := ds.any fun y => eqF y x
theorem flat_ok {d : PyData} (h : flatD d = true) (hd : Da F d v) : flatV v = true := by
  cases d with
  | none => obtain rfl : v = .non := hd; rfl
  | bool _ => obtain rfl : v = .bl _ := hd; rfl
  | int _ => obtain rfl : v = .int _ := hd; rfl
  | str _ => obtain rfl : v = .str _ := hd; rfl
  | _ => cases h
theorem eqF_ok {d e : PyData} (h1 : flatD d = true) (h2 : flatD e = true) (hd : Da F d u) (he : Da F e v) : eqV u v = eqF d e := by
  cases d <;> cases e <;> simp only [flatD] at h1 h2 <;> (try exact absurd h1 (by decide)) <;> (try exact absurd h2 (by decide)) <;> (simp only [Da] at hd he; subst hd; subst he; rfl)
theorem flats_ok : ∀ {ds : List PyData} {vs : List V}, (ds.all flatD) = true → DaAll F ds vs → vs.all flatV = true
  | [], _, _, h => by obtain rfl := (show _ = [] from h); rfl
  | d :: ds, _, hf, h => by
    obtain ⟨v, r, rfl, h1, h2⟩ := (show ∃ v r, _ = v :: r ∧ Da F d v ∧ DaAll F ds r from h)
    have hf' : flatD d = true ∧ ds.all flatD = true := by simpa using hf
    simp only [List.all_cons, Bool.and_eq_true]
    exact ⟨flat_ok hf'.1 h1, flats_ok hf'.2 h2⟩
theorem inD_ok {d : PyData} (hd : flatD d = true) (hu : Da F d u) : ∀ {ds : List PyData} {vs : List V}, (ds.all flatD) = true → DaAll F ds vs → inV u vs = inD d ds
  | [], _, _, h => by obtain rfl := (show _ = [] from h); rfl
  | e :: ds, _, hf, h => by
    obtain ⟨v, r, rfl, h1, h2⟩ := (show ∃ v r, _ = v :: r ∧ Da F e v ∧ DaAll F ds r from h)
    have hf' : flatD e = true ∧ ds.all flatD = true := by simpa using hf
    have ih := inD_ok hd hu hf'.2 h2
    unfold inV inD at ih ⊢
    rw [List.any_cons, List.any_cons, ih, eqF_ok hf'.1 hd h1 hu]
def inT (neg : Bool) : AVal → AVal → TTA := fun x y s Q => match view s y with
  | .dct kvs => onSome x.key? fun k => Q ((getA kvs k).isSome != neg) s
  | .txt z => onSome x.str? fun w => onSome (w.cps.toList.head?) fun c => w = ⟨#[c]⟩ ∧ Q (decide (c ∈ z.cps.toList) != neg) s
  | _ => onSome (listOf s y) fun ds => onSome x.data? fun d => (flatD d = true ∧ ds.all flatD = true) ∧ Q (inD d ds != neg) s
theorem op_dnotin (hu : X.A.units + 1 < cLine) : OpR X (compareOp .NotIn) (fun x y H Q => ∃ a o, y = .ref a ∧ DGet H a x o ∧ Q (.bl (!o.isSome)) H) := by
  intro pins s σ H x y v u Q I rx ry h
  obtain ⟨a, o, rfl, g, q⟩ := h
  cases ry
  exact d_notIn hu I g rx fun s3 I3 => ⟨.bl (!o.isSome), H, I3, rfl, q⟩
theorem getA_isSome {kvs : List (Key × AVal)} {es : List (Key × V)} {k : Key} (h : KrOk ad F kvs es) : (valV es k).isSome = (getA kvs k).isSome := by
  have := h.get (k := k)
  cases hg : getA kvs k with
  | none => rw [hg] at this; rw [this]; rfl
  | some x => rw [hg] at this; obtain ⟨v, hv, _⟩ := this; rw [hv]; rfl
theorem o_notIn (hu : X.A.units + 1 < cLine) : OpT X B (compareOp .NotIn) (inT true) := fun ad F H s σ x y u v Q r hx hy t => by
  unfold inT at t
  split at t
  · rename_i kvs hk
    obtain ⟨k, ek, q⟩ := t
    obtain ⟨l, es, rfl, hl, hp⟩ := hy.dct r hk
    have := AVal.key?_ok ek hx
    subst this
    refine ⟨_, _, q, op_dnotin hu, fun K kk => ⟨l, valV es k, rfl, .inl ⟨es, _, hl, rfl, rfl⟩, ?_⟩⟩
    rw [getA_isSome hp]
    simpa using kk
  · rename_i z hz
    obtain ⟨w, ew, c, ec, e2, q⟩ := t
    have := AVal.str?_of ew
    subst this
    have := hy.txt r hz
    subst this
    subst e2
    exact ⟨_, _, q, op_notIn_sign, fun K kk => ⟨c, z, hx, rfl, by simpa using kk⟩⟩
  · obtain ⟨ds, e, d, ed, ⟨f1, f2⟩, q⟩ := t
    have := AVal.data?_of ed
    subst this
    obtain ⟨l, vs, rfl, h1, h2⟩ := hy.list r e
    exact ⟨_, _, q, op_notIn_seq, fun K kk => ⟨l, vs, rfl, .inl (SqL.of h1), flat_ok f1 hx, flats_ok f2 h2, by rw [inD_ok f1 hx f2 h2]; simpa using kk⟩⟩
/-! ## == [], != [] -/
def nilT (neg : Bool) (ta : TEA) : TTA := fun s Q => ta s fun x s1 => onSome (listOf s1 x) fun ds => Q (ds.isEmpty != neg) s1
theorem op_neLen (hu : X.A.units + 64 < cLine) : OpR X (compareOp .NotEq) (rNeLen X.K) := by
  intro pins s σ H x y v u Q I rx ry h
  obtain ⟨a, b, xs, ys, rfl, rfl, h1, h2, hne, q⟩ := h
  cases rx; cases ry
  obtain ⟨its, rv, hl, hz⟩ := I.list h1
  obtain ⟨its2, rv2, hl2, hz2⟩ := I.list h2
  refine SeqAt.RcNeAt.lists_lengths hl.isList hl2.isList ?_ (by omega) _ _ _ _ ⟨.bl true, H, I, rfl, q⟩
  have e1 := rv.length
  have e2 := rv2.length
  simp only [List.size_toArray, bne_iff_ne, ne_eq]
  omega
theorem nilOp (neg : Bool) (hu : X.A.units + 64 < cLine) {ds : List PyData} {l m : Addr} {vs : List V} (h1 : H l = some (.lst vs)) (h2 : DaAll F ds vs) (h3 : H m = some (.lst [])) : ∃ r, OpR X (compareOp (if neg then .NotEq else .Eq)) r ∧ ∀ K : VK, K (.bl (ds.isEmpty != neg)) H → r (.ref l) (.ref m) H K := by
  cases ds with
  | nil =>
    obtain rfl : vs = [] := h2
    have d1 : Dp X.K H (.ref l) (.list []) := .lst (SqL.of h1) .nil
    have d2 : Dp X.K H (.ref m) (.list []) := .lst (SqL.of h3) .nil
    cases neg with
    | false => exact ⟨_, op_eqD hu, fun K k => ⟨_, _, d1, d2, rfl, rfl, k⟩⟩
    | true => exact ⟨_, op_neD hu, fun K k => ⟨_, _, d1, d2, rfl, rfl, k⟩⟩
  | cons d ds =>
    have hl := h2.length
    cases neg with
    | false => exact ⟨_, op_eqLen hu, fun K k => ⟨l, m, vs, [], rfl, rfl, SqL.of h1, SqL.of h3, by rw [hl]; simp, k⟩⟩
    | true => exact ⟨_, op_neLen hu, fun K k => ⟨l, m, vs, [], rfl, rfl, SqL.of h1, SqL.of h3, by rw [hl]; simp, k⟩⟩
theorem we_nil {Q : VK} (q : ∀ p, H p = none → Q (.ref p) (upd H p (.lst []))) {lp : Pos} : WE X (.List [] lp) σ H Q := we_of (pe_lst pa_nil) ⟨by decide, fun p hp => q p hp⟩
theorem nil_run (neg : Bool) (hu : X.A.units + 64 < cLine) (ha : EA X B a ta) {lp : Pos} {Q : Bool → AS → Prop} {K : Bool → VK} (r : Rl B ad F H s σ) (t : nilT neg ta s Q) (hK : ∀ b H', PostT B ad F σ Q b H' → K b (.bl b) H') :
    WE X a σ H fun u H1 => WE X (.List [] lp) σ H1 fun v H2 => rAny X (compareOp (if neg then .NotEq else .Eq)) u v H2 fun w H3 => ∃ b, w = .bl b ∧ K b w H3 :=
  (ha.run ad F H s σ _ r t).imp fun u H1 q => by
    obtain ⟨ad1, F1, x, s1, e1, k1, r1, v1, ds, ed, q⟩ := q
    refine we_nil fun p hp => ?_
    have r2 := r1.gr ((Gr.refl r1.fh).open' (o := .lst []) hp)
    obtain ⟨l, vs, rfl, h1, h2⟩ := v1.list r1 ed
    have hlp : l ≠ p := ne_of_none h1 hp
    obtain ⟨rr, ho, hk⟩ := nilOp (X := X) neg hu (H := upd H1 p (.lst [])) (l := l) (m := p) (by rw [upd_ne hlp]; exact h1) h2 upd_same
    exact ⟨rr, ho, hk _ ⟨_, rfl, hK _ _ ⟨ad1, F1, s1, e1, k1, r2, q⟩⟩⟩
theorem et_eqNil (hu : X.A.units + 64 < cLine) (ha : EA X B a ta) {lp : Pos} : ET X B (.Compare a [.Eq] [.List [] lp] pos) (nilT false ta) := ⟨fun ad F H s σ Q r t =>
  wt_of (pt_cmpR (op_any _) pe_we pe_we (nomark _)) (nil_run false hu ha r t (K := fun b w H3 => PostT B ad F σ Q b H3) fun _ _ h => h)⟩
theorem et_neNil (hu : X.A.units + 64 < cLine) (ha : EA X B a ta) {lp : Pos} : ET X B (.Compare a [.NotEq] [.List [] lp] pos) (nilT true ta) := ⟨fun ad F H s σ Q r t =>
  wt_of (pt_cmpR (op_any _) pe_we pe_we (nomark _)) (nil_run true hu ha r t (K := fun b w H3 => PostT B ad F σ Q b H3) fun _ _ h => h)⟩
end
end Kr
/-! layer A8 -/
namespace Kr
open PySem L2
def strs? : List PyData → Option (List Str)
  | [] => some []
  | .str x :: ds => (strs? ds).map (x :: ·)
  | _ => none
def ints? : List PyData → Option (List Int)
  | [] => some []
  | .int x :: ds => (ints? ds).map (x :: ·)
  | _ => none
theorem strs?_of : ∀ {ds : List PyData} {xs : List Str}, strs? ds = some xs → ds = xs.map .str
  | [], xs, h => by cases h; rfl
  | .str x :: ds, xs, h => by
    have h' : (strs? ds).map (x :: ·) = some xs := h
    cases hs : strs? ds with
    | none => rw [hs] at h'; cases h'
    | some ys => rw [hs] at h'; cases h'; rw [strs?_of hs]; rfl
  | .none :: _, _, h => by cases h
  | .bool _ :: _, _, h => by cases h
  | .int _ :: _, _, h => by cases h
  | .list _ :: _, _, h => by cases h
  | .tuple _ :: _, _, h => by cases h
  | .dict _ :: _, _, h => by cases h
theorem ints?_of : ∀ {ds : List PyData} {xs : List Int}, ints? ds = some xs → ds = xs.map .int
  | [], xs, h => by cases h; rfl
  | .int x :: ds, xs, h => by
    have h' : (ints? ds).map (x :: ·) = some xs := h
    cases hs : ints? ds with
    | none => rw [hs] at h'; cases h'
    | some ys => rw [hs] at h'; cases h'; rw [ints?_of hs]; rfl
  | .none :: _, _, h => by cases h
  | .bool _ :: _, _, h => by cases h
  | .str _ :: _, _, h => by cases h
  | .list _ :: _, _, h => by cases h
  | .tuple _ :: _, _, h => by cases h
  | .dict _ :: _, _, h => by cases h
theorem strs?_map (xs : List Str) : strs? (xs.map .str) = some xs := by
  induction xs with
  | nil => rfl
  | cons x xs ih => show (strs? (xs.map .str)).map _ = _; rw [ih]; rfl
theorem ints?_map (xs : List Int) : ints? (xs.map .int) = some xs := by
  induction xs with
  | nil => rfl
  | cons x xs ih => show (ints? (xs.map .int)).map _ = _; rw [ih]; rfl
def srtD (ds : List PyData) : Option (List PyData) := match strs? ds with
  | some xs => some ((srt xs).map .str)
  | none => (ints? ds).map fun ns => (srtI ns).map .int
theorem srtD_strs (xs : List Str) : srtD (xs.map .str) = some ((srt xs).map .str) := by unfold srtD; rw [strs?_map]
theorem srtD_ints (xs : List Int) : srtD (xs.map .int) = some ((srtI xs).map .int) := by
  cases xs with
  | nil => simp [srtD, strs?, srt, srtI]
  | cons x xs =>
    have : strs? ((x :: xs).map .int) = none := rfl
    unfold srtD
    rw [this, ints?_map]
    rfl
section
variable {X : Cx} {B : Bs} {ad : List Addr} {F H : Hp} {s : AS} {σ : St} {x y : AVal} {u v : V} {a b c e f o value : Expr} {es : List Expr} {pos p p2 q q2 apos cpos tpos pos2 : Pos} {ta tb tc to : TEA} {tl : TLA} {name : Str}
/-! ## calls of what is built in -/
def rAnyC (X : Cx) (g : Value) : List V → Hp → VK → Prop := fun us H Q => ∃ r, CallR X g r ∧ r us H Q
theorem cr_any (g : Value) : CallR X g (rAnyC X g) := fun pins s σ H xs us Q I r ⟨q, h, k⟩ => h pins s σ H xs us Q I r k
theorem rAnyC_imp {g : Value} {us : List V} {Q Q' : VK} (h : rAnyC X g us H Q) (k : ∀ w H', Q w H' → Q' w H') : rAnyC X g us H Q' := by
  obtain ⟨r, h1, h2⟩ := h
  exact ⟨fun us H K => ∃ K', (∀ w H', K' w H' → K w H') ∧ r us H K', fun pins s σ H xs us Q I rx ⟨K', k1, k2⟩ => thn (h1 pins s σ H xs us K' I rx k2) fun z s' ⟨w, H', I', rz, qz⟩ => ⟨w, H', I', rz, k1 w H' qz⟩, _, k, h2⟩
def CalA (X : Cx) (B : Bs) (g : Value) (rr : List AVal → TEA) : Prop := ∀ ad F H s σ xs us Q, Rl B ad F H s σ → Paired (VOk ad F) xs us → rr xs s Q → rAnyC X g us H (Post B ad F σ Q)
def CalN (X : Cx) (B : Bs) (g : Value) (rr : List AVal → TNA) : Prop := ∀ ad F H s σ xs us Q, Rl B ad F H s σ → Paired (VOk ad F) xs us → rr xs s Q → rAnyC X g us H (PostN B ad F σ Q)
def bltA (rr : List AVal → TEA) (tl : TLA) : TEA := fun s Q => tl s fun xs s1 => rr xs s1 Q
def bltN (rr : List AVal → TNA) (tl : TLA) : TNA := fun s Q => tl s fun xs s1 => rr xs s1 Q
theorem ea_blt {id : String} {rr : List AVal → TEA} (hc : CalA X B (.builtin id) rr) (hm : X.mg name = none) (ha : EL X B (e :: es) tl) (hv : bootBuiltins name = some (.builtin id) := by decide +kernel) (hg : Gl X name := by rfl) (n : Nm name := by exact ⟨by decide, by decide⟩) (l : Pl X e es pos := by exact ⟨rfl, rfl⟩) :
    EA X B (.Call (.Name name p) (e :: es) [] pos) (bltA rr tl) := ⟨fun ad F H s σ Q r t => we_of (pe_callB (cr_any _) hg hm hv pa_wa n.hn n.hdb l.he l.hpl) ((ha.run ad F H s σ _ r t).imp fun vs H1 q => by
  obtain ⟨ad1, F1, xs, s1, e1, k1, r1, hvs, hln, q⟩ := q
  exact rAnyC_imp (hc ad1 F1 H1 s1 σ xs vs Q r1 hvs q) fun w H' h => h.up e1 k1)⟩
theorem ea_bty {id : String} {rr : List AVal → TEA} (hc : CalA X B (.type id) rr) (hm : X.mg name = none) (ha : EL X B (e :: es) tl) (hv : bootBuiltins name = some (.type id) := by decide +kernel) (hg : Gl X name := by rfl) (n : Nm name := by exact ⟨by decide, by decide⟩) (l : Pl X e es pos := by exact ⟨rfl, rfl⟩) :
    EA X B (.Call (.Name name p) (e :: es) [] pos) (bltA rr tl) := ⟨fun ad F H s σ Q r t => we_of (pe_callTy (cr_any _) hg hm hv pa_wa n.hn n.hdb l.he l.hpl) ((ha.run ad F H s σ _ r t).imp fun vs H1 q => by
  obtain ⟨ad1, F1, xs, s1, e1, k1, r1, hvs, hln, q⟩ := q
  exact rAnyC_imp (hc ad1 F1 H1 s1 σ xs vs Q r1 hvs q) fun w H' h => h.up e1 k1)⟩
theorem en_blt {id : String} {rr : List AVal → TNA} (hc : CalN X B (.builtin id) rr) (hm : X.mg name = none) (ha : EL X B (e :: es) tl) (hv : bootBuiltins name = some (.builtin id) := by decide +kernel) (hg : Gl X name := by rfl) (n : Nm name := by exact ⟨by decide, by decide⟩) (l : Pl X e es pos := by exact ⟨rfl, rfl⟩) :
    EN X B (.Call (.Name name p) (e :: es) [] pos) (bltN rr tl) := ⟨fun ad F H s σ Q r t => we_of (pe_callB (cr_any _) hg hm hv pa_wa n.hn n.hdb l.he l.hpl) ((ha.run ad F H s σ _ r t).imp fun vs H1 q => by
  obtain ⟨ad1, F1, xs, s1, e1, k1, r1, hvs, hln, q⟩ := q
  exact rAnyC_imp (hc ad1 F1 H1 s1 σ xs vs Q r1 hvs q) fun w H' h => h.up e1 k1)⟩
theorem en_bty {id : String} {rr : List AVal → TNA} (hc : CalN X B (.type id) rr) (hm : X.mg name = none) (ha : EL X B (e :: es) tl) (hv : bootBuiltins name = some (.type id) := by decide +kernel) (hg : Gl X name := by rfl) (n : Nm name := by exact ⟨by decide, by decide⟩) (l : Pl X e es pos := by exact ⟨rfl, rfl⟩) :
    EN X B (.Call (.Name name p) (e :: es) [] pos) (bltN rr tl) := ⟨fun ad F H s σ Q r t => we_of (pe_callTy (cr_any _) hg hm hv pa_wa n.hn n.hdb l.he l.hpl) ((ha.run ad F H s σ _ r t).imp fun vs H1 q => by
  obtain ⟨ad1, F1, xs, s1, e1, k1, r1, hvs, hln, q⟩ := q
  exact rAnyC_imp (hc ad1 F1 H1 s1 σ xs vs Q r1 hvs q) fun w H' h => h.up e1 k1)⟩
def one (k : AVal → Prop) : List AVal → Prop
  | [x] => k x
  | _ => False
theorem one_ok {k : AVal → Prop} {xs : List AVal} {us : List V} (h : one k xs) (hp : Paired (VOk ad F) xs us) : ∃ x u, xs = [x] ∧ us = [u] ∧ VOk ad F x u ∧ k x := by
  match xs, us, hp, h with
  | [x], _, .cons (b := u) h1 .nil, h => exact ⟨x, u, rfl, rfl, h1, h⟩
def lenA (xs : List AVal) : TEA := fun s Q => one (fun x => match view s x with
  | .seq ys => Q (.d (.int ys.length)) s
  | .dct kvs => Q (.d (.int kvs.length)) s
  | .txt z => z.length ≤ sizeLine ∧ Q (.d (.int z.length)) s
  | .oth => False) xs
theorem call_lenR : CallR X (.builtin "len") (fun xs H Q => ∃ a kvs, xs = [V.ref a] ∧ Rd H a (.dK kvs) ∧ Q (.int kvs.length) H) := by
  intro pins s σ H xs us Q I r h
  obtain ⟨a, kvs, rfl, ha, q⟩ := h
  obtain ⟨u, rfl, ru⟩ := vals1 r
  cases ru
  exact d_len I ha fun t s' I' => ⟨.int kvs.length, H, I', ⟨t, rfl⟩, q⟩
theorem c_len : CalA X B (.builtin "len") lenA := fun ad F H s σ xs us Q r hp t => by
  obtain ⟨x, u, rfl, rfl, hx, t⟩ := one_ok t hp
  split at t
  · rename_i ys hy
    obtain ⟨l, vs, rfl, h1, h2⟩ := hx.seq r hy
    have hl := Paired.len h2
    rcases h1 with h1 | h1
    · exact ⟨_, call_len, _, vs.length, rfl, .inl ⟨vs, SqL.of h1, rfl⟩, .here (x := .d (.int ys.length)) r (by rw [hl]; rfl) t⟩
    · exact ⟨_, call_len, _, vs.length, rfl, .inr ⟨vs, SqT.of h1, rfl⟩, .here (x := .d (.int ys.length)) r (by rw [hl]; rfl) t⟩
  · rename_i kvs hk
    obtain ⟨l, es, rfl, h1, h2⟩ := hx.dct r hk
    have hl := Paired.len h2
    exact ⟨_, call_lenR, l, es, rfl, h1, .here (x := .d (.int kvs.length)) r (by rw [hl]; rfl) t⟩
  · rename_i z hz
    have := hx.txt r hz
    subst this
    exact ⟨_, call_len, _, z.length, rfl, ⟨t.1, rfl⟩, .here (x := .d (.int z.length)) r rfl t.2⟩
  · exact t.elim
def listN (xs : List AVal) : TNA := fun s Q => one (fun x => onSome (listOf s x) fun ds => Q (.lst ds) s) xs
theorem c_list : CalN X B (.type "list") listN := fun ad F H s σ xs us Q r hp t => by
  obtain ⟨x, u, rfl, rfl, hx, ds, e, q⟩ := one_ok t hp
  obtain ⟨l, vs, rfl, h1, h2⟩ := hx.list r e
  exact ⟨_, call_list_of, l, vs, rfl, .inl (SqL.of h1), fun p hp => .here (c := .lst ds) r hp ⟨_, upd_same, h2⟩ rfl q⟩
/-- sorted of a dict of texts -/
def txtKeys : List (Key × AVal) → Option (List Str)
  | [] => some []
  | p :: r => match p.1 with
    | .inr x => (txtKeys r).map (x :: ·)
    | .inl _ => none
theorem txtKeys_ok : ∀ {kvs : List (Key × AVal)} {es : List (Key × V)} {ks : List Str}, txtKeys kvs = some ks → KrOk ad F kvs es → es.map (·.1) = ks.map Sum.inr
  | [], _, ks, h, .nil => by cases h; rfl
  | p :: r, _, ks, h, .cons (b := q) hq t => by
    have h' : (match p.1 with | .inr x => (txtKeys r).map (x :: ·) | .inl _ => none) = some ks := h
    split at h'
    · rename_i x hx
      cases hr : txtKeys r with
      | none => rw [hr] at h'; cases h'
      | some ys =>
        rw [hr] at h'
        cases h'
        show q.1 :: _ = Sum.inr x :: _
        rw [txtKeys_ok hr t, ← hq.1, hx]
    · cases h'
def sortedN (xs : List AVal) : TNA := fun s Q => one (fun x => match view s x with
  | .dct kvs => onSome (txtKeys kvs) fun ks => ks.length < 64 ∧ Q (.lst ((srt ks).map .str)) s
  | _ => onSome (listOf s x) fun ds => onSome (srtD ds) fun es => Q (.lst es) s) xs
theorem c_sorted (hc : X.calm = true) : CalN X B (.builtin "sorted") sortedN := fun ad F H s σ xs us Q r hp t => by
  obtain ⟨x, u, rfl, rfl, hx, t⟩ := one_ok t hp
  split at t
  · rename_i kvs hk
    obtain ⟨ks, e, hl, q⟩ := t
    obtain ⟨l, es, rfl, h1, h2⟩ := hx.dct r hk
    refine ⟨_, call_sortedD hc, l, es, ks, rfl, h1, txtKeys_ok e h2, hl, fun ys p hp hs hn => ?_⟩
    have := srt_eq hp hs
    subst this
    exact .here (c := .lst ((srt ks).map .str)) r hn ⟨_, upd_same, daAll_strs _⟩ rfl q
  · obtain ⟨ds, e, es, e2, q⟩ := t
    obtain ⟨l, vs, rfl, h1, h2⟩ := hx.list r e
    unfold srtD at e2
    split at e2
    · rename_i ss hs
      cases e2
      have := strs?_of hs
      subst this
      obtain rfl := h2.strs
      exact ⟨_, cr_sortedSA, l, ss, rfl, SqL.of h1, fun p hp => .here (c := .lst ((srt ss).map .str)) r hp ⟨_, upd_same, daAll_strs _⟩ rfl q⟩
    · rename_i hs
      cases hi : ints? ds with
      | none => rw [hi] at e2; cases e2
      | some ns =>
        rw [hi] at e2
        cases e2
        have := ints?_of hi
        subst this
        obtain rfl := h2.ints
        refine ⟨_, cr_sortedI, l, ns, rfl, SqL.of h1, fun ns' p hp hs hn => ?_⟩
        have := ints_unique (hp.trans (srtI_perm ns).symm) hs (srtI_sorted ns)
        subst this
        exact .here (c := .lst ((srtI ns).map .int)) r hn ⟨_, upd_same, daAll_ints _⟩ rfl q
/-- sorted(set(..)) of texts -/
def ssetN (ta : TEA) : TNA := fun s Q => ta s fun x s1 => onSome (listOf s1 x) fun ds => onSome (strs? ds) fun xs => xs.length ≤ 4000 ∧ Q (.lst ((kset xs).map .str)) s1
def sumA (xs : List AVal) : TEA := fun s Q => one (fun x => onSome (listOf s x) fun ds => onSome (ints? ds) fun ns => Q (.d (.int ns.sum)) s) xs
theorem c_sum (hc : X.calm = true) : CalA X B (.builtin "sum") sumA := fun ad F H s σ xs us Q r hp t => by
  obtain ⟨x, u, rfl, rfl, hx, ds, e, ns, e2, q⟩ := one_ok t hp
  obtain ⟨l, vs, rfl, h1, h2⟩ := hx.list r e
  have := ints?_of e2
  subst this
  obtain rfl := h2.ints
  exact ⟨_, cr_sum hc, l, ns, rfl, SqL.of h1, .here (x := .d (.int ns.sum)) r rfl q⟩
def two (k : AVal → AVal → Prop) : List AVal → Prop
  | [x, y] => k x y
  | _ => False
theorem two_ok {k : AVal → AVal → Prop} {xs : List AVal} {us : List V} (h : two k xs) (hp : Paired (VOk ad F) xs us) : ∃ x y u v, xs = [x, y] ∧ us = [u, v] ∧ VOk ad F x u ∧ VOk ad F y v ∧ k x y := by
  match xs, us, hp, h with
  | [x, y], _, .cons (b := u) h1 (.cons (b := v) h2 .nil), h => exact ⟨x, y, u, v, rfl, rfl, h1, h2, h⟩
def minA (xs : List AVal) : TEA := fun s Q => two (fun x y => onSome x.int? fun i => onSome y.int? fun j => Q (.d (.int (min i j))) s) xs
def maxA (xs : List AVal) : TEA := fun s Q => two (fun x y => onSome x.int? fun i => onSome y.int? fun j => Q (.d (.int (max i j))) s) xs
theorem c_min (hc : X.calm = true) : CalA X B (.builtin "min") minA := fun ad F H s σ xs us Q r hp t => by
  obtain ⟨x, y, u, v, rfl, rfl, hx, hy, i, ei, j, ej, q⟩ := two_ok t hp
  have e1 := AVal.int?_of ei
  have e2 := AVal.int?_of ej
  subst e1; subst e2
  obtain rfl : u = .int i := hx
  obtain rfl : v = .int j := hy
  refine ⟨_, call_min2 hc, i, j, rfl, .here (x := .d (.int (min i j))) r ?_ q⟩
  show V.int _ = V.int _
  congr 1
  split <;> omega
theorem c_max (hc : X.calm = true) : CalA X B (.builtin "max") maxA := fun ad F H s σ xs us Q r hp t => by
  obtain ⟨x, y, u, v, rfl, rfl, hx, hy, i, ei, j, ej, q⟩ := two_ok t hp
  have e1 := AVal.int?_of ei
  have e2 := AVal.int?_of ej
  subst e1; subst e2
  obtain rfl : u = .int i := hx
  obtain rfl : v = .int j := hy
  refine ⟨_, call_max2 hc, i, j, rfl, .here (x := .d (.int (max i j))) r ?_ q⟩
  show V.int _ = V.int _
  congr 1
  split <;> omega
def intA (xs : List AVal) : TEA := fun s Q => one (fun x => match x with
  | .d (.int i) => Q (.d (.int i)) s
  | .d (.bool b) => Q (.d (.int (if b then 1 else 0))) s
  | _ => False) xs
theorem c_int : CalA X B (.type "int") intA := fun ad F H s σ xs us Q r hp t => by
  obtain ⟨x, u, rfl, rfl, hx, t⟩ := one_ok t hp
  cases x with
  | r n => exact t.elim
  | s _ _ => exact t.elim
  | a _ _ _ => exact t.elim
  | d y =>
    cases y with
    | int i =>
      obtain rfl : u = .int i := hx
      exact ⟨_, call_int1, .inl ⟨i, rfl, .here (x := .d (.int i)) r rfl t⟩⟩
    | bool b =>
      obtain rfl : u = .bl b := hx
      exact ⟨_, call_int1, .inr ⟨b, rfl, .here (x := .d (.int (if b then 1 else 0))) r rfl t⟩⟩
    | _ => exact t.elim
/-! ## isinstance -/
def kdTy : Kd → Option String
  | .lst => some "list"
  | .tup => some "tuple"
  | .dct _ => some "dict"
  | .dctT _ => none
  | .obj _ _ _ => none
theorem kdTy_ok {k : Kd} {q : Addr} {vs : List V} {tn : String} (e : kdTy k = some tn) (h : H q = some (k.ho vs)) : TyX X.K H (.ref q) (.type tn) := by
  cases k with
  | lst => cases e; exact .base (.lst h)
  | tup => cases e; exact .base (.tup h)
  | dct ks => cases e; exact .base (.dK h)
  | dctT ks => cases e
  | obj _ _ _ => cases e
def nodeK (s : AS) (x : AVal) : Option Kd := (nodeAt s x).map fun p => p.2.2.1
theorem nodeK_ok {k : Kd} (r : Rl B ad F H s σ) (h : VOk ad F x u) (e : nodeK s x = some k) : ∃ q vs, u = .ref q ∧ H q = some (k.ho vs) := by
  unfold nodeK at e
  cases hn : nodeAt s x with
  | none => rw [hn] at e; cases e
  | some p =>
    obtain ⟨m, pt', k', q, ys⟩ := p
    rw [hn] at e
    cases e
    obtain ⟨t, p', vs, N⟩ := nodeAt_ok r h hn
    exact ⟨q, vs, N.val, N.ho⟩
def tyD (d : PyData) : Option String := if noEx d = true then some (tyName d) else none
theorem tyD_ok {d : PyData} {tn : String} {F : Hp} {K : PySem.W.Frag} {v : V} (e : tyD d = some tn) (h : Da F d v) : TyX K F v (.type tn) := by
  unfold tyD at e
  split at e
  · rename_i n; cases e; exact da_ty h n
  · cases e
def tyOf (s : AS) : AVal → Option String
  | .d x => tyD x
  | .r n => match s.cs[n]? with
    | some (.lst _) => some "list"
    | some (.nl _) => some "list"
    | some (.nt _) => some "tuple"
    | some (.dK _) => some "dict"
    | some (.nd _) => some "dict"
    | some (.fz x) => tyD x
    | some (.tr (.nd k _ _)) => kdTy k
    | _ => none
  | .s _ _ => none
  | .a p n pt => (nodeK s (.a p n pt)).bind kdTy
theorem tyOf_ok {tn : String} (r : Rl B ad F H s σ) (h : VOk ad F x u) (e : tyOf s x = some tn) : TyX X.K H u (.type tn) := by
  cases x with
  | s _ _ => cases e
  | d y => exact tyD_ok e (Da.mono r.fh h)
  | r n =>
    obtain ⟨a, h1, rfl⟩ := h
    simp only [tyOf] at e
    split at e
    · rename_i ds hc; cases e; obtain ⟨_, _, vs, h2, _⟩ := r.cel n a _ h1 hc; exact .base (.lst h2)
    · rename_i ds hc; cases e; obtain ⟨_, _, vs, h2, _⟩ := r.cel n a _ h1 hc; exact .base (.lst h2)
    · rename_i ds hc; cases e; obtain ⟨_, _, vs, h2, _⟩ := r.cel n a _ h1 hc; exact .base (.tup h2)
    · rename_i ds hc; cases e; obtain ⟨_, _, vs, h2, _⟩ := r.cel n a _ h1 hc; exact .base (.dK h2)
    · rename_i ds hc; cases e; obtain ⟨_, _, vs, h2, _⟩ := r.cel n a _ h1 hc; exact .base (.dK h2)
    · rename_i y hc; obtain ⟨_, _, h4⟩ := r.cel n a _ h1 hc; exact tyD_ok e (Da.mono (d := y) r.fh h4)
    · rename_i k q ys hc
      obtain ⟨_, _, h2, h3⟩ := r.cel n a _ h1 hc
      cases h2
      obtain ⟨_, vs, h4, _⟩ := h3.node
      exact kdTy_ok e h4
    · cases e
  | a p n pt =>
    have e' : (nodeK s (.a p n pt)).bind kdTy = some tn := e
    cases hk : nodeK s (.a p n pt) with
    | none => rw [hk] at e'; cases e'
    | some k =>
      rw [hk] at e'
      obtain ⟨q, vs, rfl, h1⟩ := nodeK_ok r h hk
      exact kdTy_ok e' h1
def isiT (tn : String) (ta : TEA) : TEA := fun s Q => ta s fun x s1 => onSome (tyOf s1 x) fun t => onSome (kitB t tn) fun b => Q (.d (.bool b)) s1
theorem ea_isi {T : Str} {tn : String} {q1 q2 : Pos} (hm : X.mg "isinstance" = none) (hmT : X.mg T = none) (ha : EA X B e ta) (hv : bootBuiltins T = some (.type tn) := by decide +kernel) (hg : Gl X "isinstance" := by rfl) (hgT : Gl X T := by rfl) (n : Nm T := by exact ⟨by decide, by decide⟩)
    (l : Pl X e [.Name T pos] q2 := by exact ⟨rfl, rfl⟩) (l2 : starEach [.Name T pos] X.env = [(false, eval (.Name T pos) X.env)] := by rfl) : EA X B (.Call (.Name "isinstance" q1) [e, .Name T pos] [] q2) (isiT tn ta) := ⟨fun ad F H s σ Q r t =>
  we_of (pe_callB call_isi hg hm (by decide +kernel) (pa_cons pe_we (pa_cons (pe_bltn (v := .ty tn) hgT hmT hv rfl n.hn n.hdb) pa_nil l2) l.he) (by decide) (by decide) l.he l.hpl) ((ha.run ad F H s σ _ r t).imp fun v H1 q => by
    obtain ⟨ad1, F1, x, s1, e1, k1, r1, hv2, t, et, b, eb, q⟩ := q
    exact ⟨v, .ty tn, .type t, .type tn, b, rfl, .ty tn, tyOf_ok r1 hv2 et, kit_ty eb, (Post.here (x := .d (.bool b)) r1 rfl q).up e1 k1⟩)⟩
/-! ## methods -/
def rAnyM (X : Cx) (id : String) : V → List V → Hp → VK → Prop := fun u us H Q => ∃ r, MtR X id r ∧ r u us H Q
theorem mt_any (id : String) : MtR X id (rAnyM X id) := fun pins s σ H x xs v us Q I rx r ⟨q, h, k⟩ => h pins s σ H x xs v us Q I rx r k
theorem rAnyM_imp {id : String} {us : List V} {Q Q' : VK} (h : rAnyM X id u us H Q) (k : ∀ w H', Q w H' → Q' w H') : rAnyM X id u us H Q' := by
  obtain ⟨r, h1, h2⟩ := h
  exact ⟨fun u us H K => ∃ K', (∀ w H', K' w H' → K w H') ∧ r u us H K', fun pins s σ H x xs v us Q I rx rxs ⟨K', k1, k2⟩ => thn (h1 pins s σ H x xs v us K' I rx rxs k2) fun z s' ⟨w, H', I', rz, qz⟩ => ⟨w, H', I', rz, k1 w H' qz⟩, _, k, h2⟩
def MtA (X : Cx) (B : Bs) (id : String) (rr : AVal → List AVal → TEA) : Prop := ∀ ad F H s σ x xs u us Q, Rl B ad F H s σ → VOk ad F x u → Paired (VOk ad F) xs us → rr x xs s Q → rAnyM X id u us H (Post B ad F σ Q)
def isLst (s : AS) : AVal → Bool
  | .d (.list _) => true
  | .r n => match s.cs[n]? with
    | some (.lst _) => true
    | some (.nl _) => true
    | some (.fz (.list _)) => true
    | some (.tr (.nd .lst _ _)) => true
    | _ => false
  | .a p n pt => match nodeK s (.a p n pt) with
    | some .lst => true
    | _ => false
  | _ => false
theorem isLst_ok (r : Rl B ad F H s σ) (h : VOk ad F x u) (e : isLst s x = true) : tyV X.K "list" u H := by
  unfold isLst at e
  split at e
  · obtain ⟨a, xs, rfl, h1, _⟩ := h; exact .inl ⟨rfl, xs, SqL.of (r.fh _ _ h1)⟩
  · rename_i n
    obtain ⟨a, h1, rfl⟩ := h
    split at e
    · rename_i ds hc; obtain ⟨_, _, vs, h2, _⟩ := r.cel n a _ h1 hc; exact .inl ⟨rfl, vs, SqL.of h2⟩
    · rename_i ds hc; obtain ⟨_, _, vs, h2, _⟩ := r.cel n a _ h1 hc; exact .inl ⟨rfl, vs, SqL.of h2⟩
    · rename_i ds hc
      obtain ⟨_, _, h4⟩ := r.cel n a _ h1 hc
      obtain ⟨a', xs, e', h2, h3⟩ := h4
      cases e'
      exact .inl ⟨rfl, xs, SqL.of (r.fh _ _ h2)⟩
    · rename_i q ys hc
      obtain ⟨_, _, h2, h3⟩ := r.cel n a _ h1 hc
      cases h2
      obtain ⟨_, vs, h4, _⟩ := h3.node
      exact .inl ⟨rfl, vs, SqL.of h4⟩
    · cases e
  · split at e
    · rename_i hk
      obtain ⟨q, vs, rfl, h1⟩ := nodeK_ok r h hk
      exact .inl ⟨rfl, vs, SqL.of h1⟩
    · cases e
  · cases e
def mtL (rr : AVal → List AVal → TEA) (to : TEA) (tl : TLA) : TEA := fun s Q => to s fun x s1 => isLst s1 x = true ∧ tl s1 fun xs s2 => rr x xs s2 Q
theorem ea_mtL {id : String} {rr : AVal → List AVal → TEA} (slot : Slot "list" name id) (hty : typeOf (.builtin id) = pure (.type "method_descriptor")) (hm : MtA X B id rr) (ho : EA X B o to) (ha : EL X B (e :: es) tl) (bm : Bm X o name e es apos cpos := by exact ⟨rfl, rfl, rfl, rfl, rfl⟩) :
    EA X B (.Call (.Attribute o name apos) (e :: es) [] cpos) (mtL rr to tl) := ⟨fun ad F H s σ Q r t =>
  we_of (pe_bm PySem.F.plainAttrs_list slot hty (mt_any id) pe_we pa_wa bm.hbase bm.hfew bm.hline bm.hs bm.hplain) ((ho.run ad F H s σ _ r t).imp fun u H1 q => by
    obtain ⟨ad1, F1, x, s1, e1, k1, r1, hu, hl, q⟩ := q
    refine ⟨isLst_ok r1 hu hl, (ha.run ad1 F1 H1 s1 σ _ r1 q).imp fun us H2 q => ?_⟩
    obtain ⟨ad2, F2, xs, s2, e2, k2, r2, hus, hln, q⟩ := q
    exact rAnyM_imp (hm ad2 F2 H2 s2 σ x xs u us Q r2 (hu.mono e2 k2) hus q) fun w H' h => h.up (e1.trans e2) (k1.trans k2))⟩
def mtL0 (rr : AVal → List AVal → TEA) (to : TEA) : TEA := fun s Q => to s fun x s1 => isLst s1 x = true ∧ rr x [] s1 Q
theorem ea_mtL0 {id : String} {rr : AVal → List AVal → TEA} (slot : Slot "list" name id) (hty : typeOf (.builtin id) = pure (.type "method_descriptor")) (hm : MtA X B id rr) (ho : EA X B o to) (hbase : attributeBase o name X.env (eval o X.env) = eval o X.env := by rfl) (hline : (apos.endLine == cpos.line) = true := by rfl) :
    EA X B (.Call (.Attribute o name apos) [] [] cpos) (mtL0 rr to) := ⟨fun ad F H s σ Q r t =>
  we_of (pe_bm0 PySem.F.plainAttrs_list slot hty (mt_any id) pe_we hbase hline) ((ho.run ad F H s σ _ r t).imp fun u H1 q => by
    obtain ⟨ad1, F1, x, s1, e1, k1, r1, hu, hl, q⟩ := q
    exact ⟨isLst_ok r1 hu hl, rAnyM_imp (hm ad1 F1 H1 s1 σ x [] u [] Q r1 hu .nil q) fun w H' h => h.up e1 k1⟩)⟩
/-- the cell of a list of our own -/
def onLst (s : AS) (x : AVal) (k : Nat → List PyData → Prop) : Prop := match x with
  | .r n => match s.cs[n]? with
    | some (.lst ds) => k n ds
    | _ => False
  | _ => False
theorem onLst_ok {k : Nat → List PyData → Prop} (r : Rl B ad F H s σ) (hx : VOk ad F x u) (h : onLst s x k) : ∃ n ds p vs, s.cs[n]? = some (.lst ds) ∧ ad[n]? = some p ∧ u = .ref p ∧ H p = some (.lst vs) ∧ DaAll F ds vs ∧ k n ds := by
  unfold onLst at h
  split at h
  · rename_i n
    split at h
    · rename_i ds hc
      obtain ⟨p, h1, rfl⟩ := hx
      obtain ⟨_, _, vs, h2, h3⟩ := r.cel n p _ h1 hc
      exact ⟨n, ds, p, vs, hc, h1, rfl, h2, h3, h⟩
    · exact h.elim
  · exact h.elim
theorem Post.putL {Q : VQ} {d : PyData} {n : Nat} {ds es : List PyData} {q : Addr} {vs : List V} (r : Rl B ad F H s σ) (hc : s.cs[n]? = some (.lst ds)) (hp : ad[n]? = some q) (hd : DaAll F es vs) (hv : Da F d v) (k : Q (.d d) ⟨s.sl, s.cs.set n (.lst es)⟩) : Post B ad F σ Q v (upd H q (.lst vs)) :=
  .here (x := .d d) (r.put (c := .lst es) hp hc rfl ⟨vs, upd_same, hd⟩) hv k
def appendA (x : AVal) (xs : List AVal) : TEA := fun s Q => one (fun y => onLst s x fun n ds => onSome y.data? fun d => ds.length < sizeLine ∧ Q (.d .none) ⟨s.sl, s.cs.set n (.lst (ds ++ [d]))⟩) xs
theorem m_append : MtA X B "list.append" appendA := fun ad F H s σ x xs u us Q r hx hp t => by
  obtain ⟨y, w, rfl, rfl, hy, t⟩ := one_ok t hp
  obtain ⟨n, ds, p, vs, hc, h1, rfl, h2, h3, d, ed, hz, q⟩ := onLst_ok r hx t
  have := AVal.data?_of ed
  subst this
  exact ⟨_, mt_append, p, vs, w, rfl, rfl, h2, by rw [h3.length]; exact hz, .putL (d := .none) r hc h1 (h3.snoc hy) rfl q⟩
def extendA (x : AVal) (xs : List AVal) : TEA := fun s Q => one (fun y => onLst s x fun n ds => onSome (listOf s y) fun es => ds.length + es.length ≤ sizeLine ∧ Q (.d .none) ⟨s.sl, s.cs.set n (.lst (ds ++ es))⟩) xs
def removeA (x : AVal) (xs : List AVal) : TEA := fun s Q => one (fun y => onLst s x fun n ds => onSome (strs? ds) fun ss => onSome y.str? fun z => z ∈ ss ∧ Q (.d .none) ⟨s.sl, s.cs.set n (.lst ((ss.erase z).map .str))⟩) xs
theorem m_remove : MtA X B "list.remove" removeA := fun ad F H s σ x xs u us Q r hx hp t => by
  obtain ⟨y, w, rfl, rfl, hy, t⟩ := one_ok t hp
  obtain ⟨n, ds, p, vs, hc, h1, rfl, h2, h3, ss, es, z, ez, hz, q⟩ := onLst_ok r hx t
  have := AVal.str?_of ez
  subst this
  have := strs?_of es
  subst this
  obtain rfl := h3.strs
  obtain rfl : w = .str z := hy
  exact ⟨_, mt_removeS, p, ss, z, rfl, rfl, h2, hz, .putL (d := .none) r hc h1 (daAll_strs _) rfl q⟩
def popA (x : AVal) (xs : List AVal) : TEA := fun s Q => onLst s x fun n ds => onSome ds.getLast? fun d => Q (.d d) ⟨s.sl, s.cs.set n (.lst ds.dropLast)⟩
theorem DaAll.dropLast {ds : List PyData} {vs : List V} (h : DaAll F ds vs) : DaAll F ds.dropLast vs.dropLast := by
  rw [List.dropLast_eq_take, List.dropLast_eq_take, h.length]
  exact h.take _
theorem m_pop : MtA X B "list.pop" (fun x xs s Q => xs = [] ∧ popA x xs s Q) := fun ad F H s σ x xs u us Q r hx hp t => by
  obtain ⟨rfl, t⟩ := t
  cases hp
  obtain ⟨n, ds, p, vs, hc, h1, rfl, h2, h3, d, ed, q⟩ := onLst_ok r hx t
  rw [List.getLast?_eq_getElem?] at ed
  obtain ⟨w, hw, hd⟩ := h3.get ed
  exact ⟨_, mt_pop, p, vs, w, rfl, rfl, h2, by rw [h3.length]; exact hw, .putL (d := d) r hc h1 h3.dropLast hd q⟩
def popAtA (x : AVal) (xs : List AVal) : TEA := fun s Q => one (fun y => onLst s x fun n ds => onSome y.int? fun i => (0 ≤ i ∧ i < 2 ^ 63) ∧ onSome (ds[i.toNat]?) fun d => Q (.d d) ⟨s.sl, s.cs.set n (.lst (ds.eraseIdx i.toNat))⟩) xs
theorem DaAll.eraseIdx : ∀ {ds : List PyData} {vs : List V} (k : Nat), DaAll F ds vs → DaAll F (ds.eraseIdx k) (vs.eraseIdx k)
  | [], _, k, h => by obtain rfl := (show _ = [] from h); exact h
  | d :: ds, _, 0, h => by
    obtain ⟨v, r, rfl, h1, h2⟩ := (show ∃ v r, _ = v :: r ∧ Da F d v ∧ DaAll F ds r from h)
    exact h2
  | d :: ds, _, k + 1, h => by
    obtain ⟨v, r, rfl, h1, h2⟩ := (show ∃ v r, _ = v :: r ∧ Da F d v ∧ DaAll F ds r from h)
    exact daAll_cons h1 (DaAll.eraseIdx k h2)
def clearA (x : AVal) (xs : List AVal) : TEA := fun s Q => onLst s x fun n ds => Q (.d .none) ⟨s.sl, s.cs.set n (.lst [])⟩
def countA (x : AVal) (xs : List AVal) : TEA := fun s Q => one (fun y => onSome (listOf s x) fun ds => onSome (strs? ds) fun ss => onSome y.str? fun z => Q (.d (.int (ss.count z : Nat))) s) xs
theorem m_count : MtA X B "list.count" countA := fun ad F H s σ x xs u us Q r hx hp t => by
  obtain ⟨y, w, rfl, rfl, hy, ds, ed, ss, es, z, ez, q⟩ := one_ok t hp
  have := AVal.str?_of ez
  subst this
  obtain ⟨l, vs, rfl, h1, h2⟩ := hx.list r ed
  have := strs?_of es
  subst this
  obtain rfl := h2.strs
  obtain rfl : w = .str z := hy
  exact ⟨_, mt_countS, l, ss, z, rfl, rfl, SqL.of h1, .here (x := .d (.int (ss.count z : Nat))) r rfl q⟩
/-! ## dicts -/
def newD : TNA := fun s Q => Q (.dK []) s
theorem en_dict : EN X B (.Dict [] [] pos) newD := ⟨fun ad F H s σ Q r t => we_of pe_dnewK fun p hp => .here (c := .dK []) r hp ⟨[], upd_same, .nil⟩ rfl t⟩
theorem isD_ok {kvs : List (Key × AVal)} (r : Rl B ad F H s σ) (h : VOk ad F x u) (e : view s x = .dct kvs) : ∃ l es, u = .ref l ∧ IsD H l ∧ Rd H l (.dK es) ∧ KrOk ad F kvs es := by
  obtain ⟨l, es, rfl, h1, h2⟩ := h.dct r e
  exact ⟨l, es, rfl, .inl ⟨es, h1⟩, h1, h2⟩
def isDct (s : AS) (x : AVal) : Prop := match view s x with | .dct _ => True | _ => False
def getA2 (to te tf : TEA) : TEA := fun s Q => to s fun x s1 => isDct s1 x ∧ te s1 fun y s2 => tf s2 fun z s3 => match view s3 x with
  | .dct kvs => onSome y.key? fun k => Q ((getA kvs k).getD z) s3
  | _ => False
theorem ea_get2 (hu : X.A.units + 64 < cLine) (ho : EA X B o to) (he : EA X B e ta) (hf : EA X B f tb) (m : M2 X o "get" apos e f cpos := by exact ⟨rfl, rfl, rfl, rfl⟩) : EA X B (.Call (.Attribute o "get" apos) [e, f] [] cpos) (getA2 to ta tb) := ⟨fun ad F H s σ Q r t =>
  we_of (pe_dget2 (by omega) pe_we pe_we pe_we m) ((ho.run ad F H s σ _ r t).imp fun u H1 q => by
    obtain ⟨ad1, F1, x, s1, e1, k1, r1, hu1, hd, q⟩ := q
    unfold isDct at hd
    split at hd
    · rename_i kvs hk
      obtain ⟨l, es, rfl, hi, _, _⟩ := isD_ok r1 hu1 hk
      refine ⟨l, rfl, hi, (he.run ad1 F1 H1 s1 σ _ r1 q).imp fun w H2 q => ?_⟩
      obtain ⟨ad2, F2, y, s2, e2, k2, r2, hw, q⟩ := q
      refine (hf.run ad2 F2 H2 s2 σ _ r2 q).imp fun z H3 q => ?_
      obtain ⟨ad3, F3, zz, s3, e3, k3, r3, hz, q⟩ := q
      split at q
      · rename_i kvs3 hk3
        obtain ⟨k, ek, q⟩ := q
        obtain ⟨l2, es2, e4, _, h4, h5⟩ := isD_ok r3 (hu1.mono (e2.trans e3) (k2.trans k3)) hk3
        cases e4
        have := AVal.key?_ok ek (hw.mono e3 k3)
        subst this
        refine ⟨valV es2 k, .inl ⟨es2, k, h4, rfl, rfl⟩, ?_⟩
        have hg := h5.get (k := k)
        refine ⟨ad3, F3, _, s3, e1.trans (e2.trans e3), k1.trans (k2.trans k3), r3, ?_, q⟩
        cases hga : getA kvs3 k with
        | none => rw [hga] at hg; rw [hg]; exact hz
        | some g => rw [hga] at hg; obtain ⟨v', hv', hvo⟩ := hg; rw [hv']; exact hvo
      · exact q.elim
    · exact hd.elim)⟩
def onDct (s : AS) (x : AVal) (k : Nat → List (Key × PyData) → Prop) : Prop := match x with
  | .r n => match s.cs[n]? with
    | some (.dK ds) => k n ds
    | _ => False
  | _ => False
theorem onDct_ok {k : Nat → List (Key × PyData) → Prop} (r : Rl B ad F H s σ) (hx : VOk ad F x u) (h : onDct s x k) : ∃ n ds p es, s.cs[n]? = some (.dK ds) ∧ ad[n]? = some p ∧ u = .ref p ∧ H p = some (.dK es) ∧ KvOk F ds es ∧ k n ds := by
  unfold onDct at h
  split at h
  · rename_i n
    split at h
    · rename_i ds hc
      obtain ⟨p, h1, rfl⟩ := hx
      obtain ⟨_, _, vs, h2, h3⟩ := r.cel n p _ h1 hc
      exact ⟨n, ds, p, vs, hc, h1, rfl, h2, h3, h⟩
    · exact h.elim
  · exact h.elim
/-- d[k] = v -/
def putS (tv to ti : TEA) : TSA := fun D s => tv s fun v s1 => to s1 fun x s2 => ti s2 fun y s3 => onDct s3 x fun n ds => onSome y.key? fun k => onSome v.data? fun d => ds.length < sizeLine ∧ D.nx ⟨s3.sl, s3.cs.set n (.dK (putA ds k d))⟩
theorem Paired.length_eq {kvs : List (Key × PyData)} {es : List (Key × V)} (h : KvOk F kvs es) : kvs.length = es.length := Paired.len h
theorem sa_put (hu : X.A.units + 64 < cLine) (hv : EA X B value tc) (ho : EA X B o ta) (hi : EA X B e tb) (hs : swapsWith value (some (.Subscript o e tpos)) pos.line X.env = pure false := by rfl) : SA X B (.Assign [.Subscript o e tpos] value pos) (putS tc ta tb) := ⟨fun D s h ad F H σ r =>
  ws_of (ps_dput (by omega) pe_we pe_we pe_we hs) ((hv.run ad F H s σ _ r h).imp fun w H1 q => by
    obtain ⟨ad1, F1, v, s1, e1, k1, r1, hv1, q⟩ := q
    refine (ho.run ad1 F1 H1 s1 σ _ r1 q).imp fun u H2 q => ?_
    obtain ⟨ad2, F2, x, s2, e2, k2, r2, hx, q⟩ := q
    refine (hi.run ad2 F2 H2 s2 σ _ r2 q).imp fun z H3 q => ?_
    obtain ⟨ad3, F3, y, s3, e3, k3, r3, hy, q⟩ := q
    obtain ⟨n, ds, p, es, hc, h1, rfl, h2, h3, k, ek, d, ed, hl, qq⟩ := onDct_ok r3 (hx.mono e3 k3) q
    have := AVal.data?_of ed
    subst this
    have := AVal.key?_ok ek hy
    subst this
    have hlen := Paired.length_eq h3
    exact ⟨p, _, rfl, DPut.k h2 (by omega), ad3, F3, _, r3.put (c := .dK (putA ds k d)) h1 hc rfl ⟨_, upd_same, put_pair (R := Da F3) h3 (Da.mono (k2.trans k3) hv1)⟩, qq⟩)⟩
/-- d[k] -= e, d[k] += e of ints -/
def augS (g : Int → Int → Int) (to ti tv : TEA) : TSA := fun D s => to s fun x s1 => ti s1 fun y s2 => onSome y.key? fun k => onDct s2 x fun _ ds0 => onSome (getA ds0 k) fun d => onSome (AVal.d d).int? fun i => tv s2 fun v s3 => onSome v.int? fun j => onDct s3 x fun n ds => ds.length < sizeLine ∧ D.nx ⟨s3.sl, s3.cs.set n (.dK (putA ds k (.int (g i j))))⟩
/-! ## what is walked -/
variable {tg e2 : Expr}
theorem WE.sz {Q : VK} (h : WE X e σ H Q) : WE X e σ H fun v H' => Q v H' ∧ ∀ l vs, H' l = some (.lst vs) → vs.length ≤ sizeLine := fun pins s I => thn (h pins s I) fun u s' ⟨v, H', I', r, k⟩ => ⟨v, H', I', r, k, fun l vs hl => (I'.hok l _ hl).1⟩
theorem WA.sz {Q : List V → Hp → Prop} (h : WA X es σ H Q) : WA X es σ H fun v H' => Q v H' ∧ ∀ l vs, H' l = some (.lst vs) → vs.length ≤ sizeLine := fun pos pins s I => thn (h pos pins s I) fun u s' ⟨v, H', I', r, k⟩ => ⟨v, H', I', r, k, fun l vs hl => (I'.hok l _ hl).1⟩
/-- a list that is told for good -/
def fzList (s : AS) : AVal → Option (List PyData)
  | .d (.list ds) => some ds
  | .r n => match s.cs[n]? with
    | some (.fz (.list ds)) => some ds
    | _ => none
  | _ => none
theorem fzList_ok {ds : List PyData} (r : Rl B ad F H s σ) (h : VOk ad F x u) (e : fzList s x = some ds) : Da F (.list ds) u := by
  unfold fzList at e
  split at e
  · cases e; exact h
  · rename_i n
    obtain ⟨a, h1, rfl⟩ := h
    split at e
    · rename_i ds' hc; cases e; exact (r.cel n a _ h1 hc).2.2
    · cases e
  · cases e
def iterL (ta : TEA) : AS → (List PyData → AS → Prop) → Prop := fun s Q => ta s fun x s1 => onSome (fzList s1 x) fun ds => Q ds s1
theorem walks_list {F2 : Hp} {ds : List PyData} {l : Addr} {vs : List V} (h1 : F2 l = some (.lst vs)) (h2 : DaAll F2 ds vs) {K : PySem.W.Frag} : Walks (Itl K l) F2 ds := Walks0.w fun F3 H3 s1 s2 => ⟨fun i d e => by
  obtain ⟨v, hv, hd⟩ := h2.get e
  exact ⟨⟨vs, v, SqL.of (s2 _ _ (s1 _ _ h1)), hv⟩, fun x H4 y => ⟨y.1, (getV h2 e (y.2 vs (SqL.of (s2 _ _ (s1 _ _ h1))))).mono s1⟩⟩, vs, SqL.of (s2 _ _ (s1 _ _ h1)), by rw [h2.length]; exact Nat.le_refl _⟩
theorem ia_list (ha : EA X B e ta) : IA X B tg e (iterL ta) := ⟨fun ad F H s σ Q R r t k => wi_of (pi_list pe_we) ((WE.sz (ha.run ad F H s σ _ r t)).imp fun u H1 q => by
  obtain ⟨⟨ad1, F1, x, s1, e1, k1, r1, hx, ds, ed, q⟩, hz⟩ := q
  obtain ⟨l, vs, rfl, h1, h2⟩ := fzList_ok r1 hx ed
  have h1' := r1.fh _ _ h1
  exact ⟨l, rfl, ⟨vs, SqL.of h1'⟩, k _ ad1 F1 H1 s1 ds e1 k1 r1 (walks_list h1 h2) (by rw [← h2.length]; exact hz l vs h1') q⟩)⟩
/-- a list of our own, within a comprehension -/
def iterO (ta : TEA) : TIO := fun s Q => ta s fun x s1 => match x with
  | .r n => onSome s1.cs[n]? fun c => match c with
    | .lst ds => Q ds (fun cs => cs[n]? = some (.lst ds)) s1
    | .fz (.list ds) => Q ds (fun _ => True) s1
    | _ => False
  | .d (.list ds) => Q ds (fun _ => True) s1
  | .a p n pt => onSome (leafL (nodeAt s1 (.a p n pt))) fun ds => Q ds (fun cs => leafL (nodeAt ⟨[], cs⟩ (.a p n pt)) = some ds) s1
  | _ => False
theorem io_list (ha : EA X B e ta) : IO X B tg e (iterO ta) := ⟨fun ad F H s σ Q R r t k => wi_of (pi_list pe_we) ((WE.sz (ha.run ad F H s σ _ r t)).imp fun u H1 q => by
  obtain ⟨⟨ad1, F1, x, s1, e1, k1, r1, hx, q⟩, hz⟩ := q
  have fz : ∀ {ds : List PyData}, Da F1 (.list ds) u → Q ds (fun _ => True) s1 → ∃ a, u = .ref a ∧ (∃ xs, SqL X.K H1 a xs) ∧ R (Itl X.K a) H1 := fun {ds} hd q => by
    obtain ⟨l, vs, rfl, h1, h2⟩ := hd
    have h1' := r1.fh _ _ h1
    exact ⟨l, rfl, ⟨vs, SqL.of h1'⟩, k _ ad1 F1 H1 s1 ds _ e1 k1 r1 (fun B3 ad3 F3 H3 s3 σ3 _ k3 r3 _ => walks_list h1 h2 F3 H3 k3 r3.fh) (by rw [← h2.length]; exact hz l vs h1') q⟩
  cases x with
  | s _ _ => exact q.elim
  | a p n pt =>
    obtain ⟨ds, hds, q⟩ := q
    obtain ⟨l, vs, rfl, h1, h2⟩ := leafL_ok r1 hx hds
    have hlp : V.ref l = .ref p := hx
    cases hlp
    refine ⟨p, rfl, ⟨vs, SqL.of h1⟩, k _ ad1 F1 H1 s1 ds _ e1 k1 r1 (fun B3 ad3 F3 H3 s3 σ3 e3 k3 r3 hk => ?_) (by rw [← h2.length]; exact hz p vs h1) q⟩
    obtain ⟨l', ws, hl', g1, g2⟩ := leafL_ok (x := .a p n pt) (v := .ref p) r3 rfl hk
    cases hl'
    exact ⟨fun i d e => by
      obtain ⟨v, hv, hd⟩ := g2.get e
      exact ⟨⟨ws, v, SqL.of g1, hv⟩, fun x H4 y => ⟨F3, by rw [y.1]; exact .refl r3.fh, getV g2 e (y.2 ws (SqL.of g1))⟩⟩, ws, SqL.of g1, by rw [g2.length]; exact Nat.le_refl _⟩
  | d y =>
    cases y with
    | list ds => exact fz hx q
    | _ => exact q.elim
  | r n =>
    obtain ⟨c, hc, q⟩ := q
    obtain ⟨a, ha, rfl⟩ := hx
    obtain ⟨n0, l0, ok⟩ := r1.cel n a c ha hc
    cases c with
    | lst ds =>
      obtain ⟨vs, h1, h2⟩ := ok
      refine ⟨a, rfl, ⟨vs, SqL.of h1⟩, k _ ad1 F1 H1 s1 ds _ e1 k1 r1 (fun B3 ad3 F3 H3 s3 σ3 e3 k3 r3 hk => ?_) (by rw [← h2.length]; exact hz a vs h1) q⟩
      obtain ⟨_, _, ws, g1, g2⟩ := r3.cel n a _ (ext_get e3 ha) hk
      exact ⟨fun i d e => by
        obtain ⟨v, hv, hd⟩ := g2.get e
        exact ⟨⟨ws, v, SqL.of g1, hv⟩, fun x H4 y => ⟨F3, by rw [y.1]; exact .refl r3.fh, getV g2 e (y.2 ws (SqL.of g1))⟩⟩, ws, SqL.of g1, by rw [g2.length]; exact Nat.le_refl _⟩
    | fz y =>
      cases y with
      | list ds => exact fz ok q
      | _ => exact q.elim
    | _ => exact q.elim)⟩
def iterR1 (ta : TEA) : AS → (List PyData → AS → Prop) → Prop := fun s Q => ta s fun x s1 => onSome x.int? fun j => j ≤ 16777216 ∧ Q (intsD 0 j) s1
theorem ia_range1 (hm : X.mg "range" = none) (ha : EA X B e ta) (hg : Gl X "range" := by rfl) (l : Pl X e [] pos := by exact ⟨rfl, rfl⟩) : IA X B tg (.Call (.Name "range" p) [e] [] pos) (iterR1 (fun s Q => ta s fun x s1 => onSome x.int? fun j => -(2 ^ 62) ≤ j ∧ Q x s1)) := ⟨fun ad F H s σ Q R r t k =>
  wi_of (pi_range1 hg hm (pa_cons pe_we pa_nil l.he) (hs := l.he)) ((ha.run ad F H s σ _ r t).imp fun u H1 q => by
    obtain ⟨ad1, F1, x, s1, e1, k1, r1, hx, j0, ej0, hj0, j, ej, hj, q⟩ := q
    have := AVal.int?_of ej
    subst this
    obtain rfl : u = .int j := hx
    cases ej0
    refine ⟨j0, rfl, hj0, by omega, k _ ad1 F1 H1 s1 _ e1 k1 r1 (walks_rng 0 _ (by simp)).w ?_ q⟩
    rw [intsD_length]
    have : sizeLine = 16777216 := by decide
    omega)⟩
def iterR2 (ta tb : TEA) : AS → (List PyData → AS → Prop) → Prop := fun s Q => ta s fun x s1 => tb s1 fun y s2 => onSome x.int? fun i => onSome y.int? fun j => (-(2 ^ 62) ≤ i ∧ i < 2 ^ 62 ∧ -(2 ^ 62) ≤ j ∧ j < 2 ^ 62 ∧ j - i ≤ 16777216) ∧ Q (intsD i j) s2
def iterE (ta : TEA) : AS → (List PyData → AS → Prop) → Prop := fun s Q => ta s fun x s1 => onSome (fzList s1 x) fun ds => Q (enumsD ds) s1
theorem walks_enum {F2 : Hp} {ds : List PyData} {a : Addr} {xs : List V} (h1 : F2 a = some (.lst xs)) (h2 : DaAll F2 ds xs) {K : PySem.W.Frag} : Walks (Ite K a) F2 (enumsD ds) := fun F3 H3 s1 s2 => ⟨fun i d e => by
    unfold enumsD at e
    rw [List.getElem?_mapIdx] at e
    cases hc : ds[i]? with
    | none => rw [hc] at e; simp at e
    | some d0 =>
      rw [hc] at e
      have e' : PyData.tuple [.int (i : Nat), d0] = d := by simpa using e
      subst e'
      obtain ⟨v, hv, hd⟩ := h2.get hc
      refine ⟨⟨xs, v, SqL.of (s2 _ _ (s1 _ _ h1)), hv⟩, fun x H4 y => ?_⟩
      obtain ⟨T, x0, rfl, nT, rfl, hx⟩ := y
      have hx0 := (getV h2 hc (hx xs (SqL.of (s2 _ _ (s1 _ _ h1))))).mono s1
      exact ⟨upd F3 T (.tup [.int (i : Nat), x0]), (Gr.refl s2).shut nT, T, _, rfl, upd_same, daAll_cons rfl (daAll_cons (hx0.mono (same_upd (s2.free nT))) daAll_nil)⟩, xs, SqL.of (s2 _ _ (s1 _ _ h1)), by simp [enumsD, h2.length]⟩
theorem ia_enum {elts : List Expr} {kk : Nat} {tpos : Pos} (hm : X.mg "enumerate" = none) (ha : EA X B e ta) (hg : Gl X "enumerate" := by rfl) (l : starEach [e] X.env = [(false, eval e X.env)] := by rfl) : IA X B (.Tuple elts kk tpos) (.Call (.Name "enumerate" p) [e] [] pos) (iterE ta) := ⟨fun ad F H s σ Q R r t k =>
  wi_of (pi_enum hg hm (pa_cons pe_we pa_nil l) l) ((WE.sz (ha.run ad F H s σ _ r t)).imp fun u H1 q => by
    obtain ⟨⟨ad1, F1, x, s1, e1, k1, r1, hx, ds, ed, q⟩, hz⟩ := q
    obtain ⟨a, vs, rfl, h1, h2⟩ := fzList_ok r1 hx ed
    have h1' := r1.fh _ _ h1
    exact ⟨a, vs, rfl, SqL.of h1', k _ ad1 F1 H1 s1 _ e1 k1 r1 (walks_enum h1 h2) (by have := hz a vs h1'; rw [h2.length] at this; simpa [enumsD] using this) q⟩)⟩
end
end Kr
/-! layer A9 -/
namespace Kr
open PySem L2
theorem hu1 {k : Nat} {A : Around} (h : Room k A) : A.units + 1 < cLine := by have := h.units; omega
section
variable {X : Cx} {B : Bs} {ad : List Addr} {F H : Hp} {s : AS} {σ : St} {x y : AVal} {u v : V} {a b c e f o : Expr} {es : List Expr} {pos p p2 apos cpos : Pos} {ta tb tc : TEA} {tl : TLA} {name : Str}
/-! ## further rules -/
/-- a name whose cell is told for good from here on -/
def fzA (m k : Nat) : TEA := fun s Q => onSome (s.sl[k]?.bind id) fun x => match x with
  | .r n => onSome s.cs[n]? fun c => match c with
    | .fz d => Q (.d d) s
    | c => (m ≤ n ∧ c.live = true) ∧ onSome (frzC c) fun d => Q (.d d) ⟨s.sl, s.cs.set n (.fz d)⟩
  | x => Q x s
theorem ea_fz (k : Nat) {x : Str} (hN : X.N[k]? = some x := by rfl) (hv : Vis X.env.scope x := by first | exact Or.inl rfl | exact Or.inr (Or.inl rfl) | exact Or.inr (Or.inr rfl)) (hd : (x == ("__debug__" : Str)) = false := by decide)
    (hcd : (x == ("__classdict__" : Str)) = false := by decide) : EA X B (.Name x pos) (fzA B.S.length k) := ⟨fun ad F H s σ Q r t => by
  obtain ⟨y, e, q⟩ := t
  have e' : s.sl[k]? = some (some y) := by
    cases h : s.sl[k]? with
    | none => rw [h] at e; cases e
    | some o => rw [h] at e; cases o with
      | none => cases e
      | some z => cases e; rfl
  obtain ⟨v, h1, h2⟩ := r.slt k y e'
  refine we_of (pe_var hN hv hd hcd) ⟨v, h1, ?_⟩
  cases y with
  | d y => exact .here r h2 q
  | s _ _ => exact .here r h2 q
  | a _ _ _ => exact .here r h2 q
  | r n =>
    obtain ⟨c, hc, q⟩ := q
    obtain ⟨a, ha, rfl⟩ := h2
    obtain ⟨n0, l, ok⟩ := r.cel n a c ha hc
    have lv : (B.S.length ≤ n ∧ c.live = true) ∧ (onSome (frzC c) fun d => Q (.d d) ⟨s.sl, s.cs.set n (.fz d)⟩) → Post B ad F σ Q (.ref a) H := fun ⟨⟨hm, hl⟩, d, hd, q⟩ => by
      obtain ⟨o, ho, hda⟩ := ok.frz hl (l hl) hd
      exact ⟨ad, upd F a o, .d d, _, Ext.refl _, same_upd (l hl), r.freeze ha hc hl hm ho hda, hda, q⟩
    cases c with
    | fz d => exact .here (x := .d d) r ok q
    | lst _ => exact lv q
    | dK _ => exact lv q
    | pool _ => exact lv q
    | gone => exact lv q
    | nl _ => exact lv q
    | nt _ => exact lv q
    | nd _ => exact lv q
    | dl _ _ _ => exact lv q
    | tr _ => exact lv q⟩
def negA (ta : TEA) : TEA := fun s Q => ta s fun x s1 => onSome x.int? fun i => Q (.d (.int (-i))) s1
/-- a op b op c of ints -/
def chainT (g h : Int → Int → Bool) (ta tb tc : TEA) : TTA := fun s Q => ta s fun x s1 => tb s1 fun y s2 => onSome x.int? fun i => onSome y.int? fun j => if g i j = true then tc s2 fun z s3 => onSome z.int? fun k => Q (h j k) s3 else Q false s2
/-- texts joined -/
def joinA (to te : TEA) : TEA := fun s Q => to s fun x s1 => onSome x.str? fun z => te s1 fun y s2 => onSome (listOf s2 y) fun ds => onSome (strs? ds) fun ys => (ys.map (·.length)).sum + ys.length * z.length ≤ 16777216 ∧ Q (.d (.str (Txt.join z ys))) s2
/-! ## the script -/
def scrLen (K : PySem.W.Frag) (k : Nat) : TEA := fun s Q => onSome (s.sl[k]?.bind id) fun x => match x with
  | .s K' ns => K' = K ∧ Q (.d (.int ns.length)) s
  | _ => False
theorem slot_get {k : Nat} (h : s.sl[k]?.bind id = some x) : s.sl[k]? = some (some x) := by
  cases e : s.sl[k]? with
  | none => rw [e] at h; cases h
  | some o => rw [e] at h; cases o with
    | none => cases h
    | some z => cases h; rfl
theorem ea_scrLen (k : Nat) {nm : Str} (hm : X.mg "len" = none) (hN : X.N[k]? = some nm := by rfl) (hv : Vis X.env.scope nm := by first | exact Or.inl rfl | exact Or.inr (Or.inl rfl) | exact Or.inr (Or.inr rfl)) (hd : (nm == ("__debug__" : Str)) = false := by decide) (hcd : (nm == ("__classdict__" : Str)) = false := by decide)
    (hg : Gl X "len" := by rfl) (pl : Pl X (.Name nm p2) [] pos := by exact ⟨rfl, rfl⟩) : EA X B (.Call (.Name "len" p) [.Name nm p2] [] pos) (scrLen X.K k) := ⟨fun ad F H s σ Q r t => by
  obtain ⟨y, e, q⟩ := t
  obtain ⟨v, h1, h2⟩ := r.slt k y (slot_get e)
  cases y with
  | d _ => exact q.elim
  | r _ => exact q.elim
  | a _ _ _ => exact q.elim
  | s K' ns =>
    obtain ⟨rfl, q⟩ := q
    obtain ⟨a, rfl, hq⟩ := h2
    exact we_of (pe_callB call_len hg hm PySem.boot_len (pa_cons (pe_var hN hv hd hcd) pa_nil pl.he) (by decide) (by decide) pl.he pl.hpl) ⟨_, h1, _, (ns.map V.int).length, rfl, .inl ⟨_, r.fh.seq hq, rfl⟩, .here (x := .d (.int ns.length)) r (by rw [List.length_map]; rfl) q⟩⟩
end
end Kr
namespace Kr
open PySem L2
def neverA : TSA := fun _ _ => False
theorem sa_never {X : Cx} {B : Bs} {st : Stmt} : SA X B st neverA := ⟨fun _ _ h => h.elim⟩
end Kr
/-! layer A10 -/
namespace Kr
open PySem L2
/-! ## plain rules -/
/-- one turn of a comprehension that leaves the cells: kept or not, and what is put -/
def lcStep (g : TGA) (tt : TTA) (te : TEA) (vs : List Nat) (sl : List (Option AVal)) (cs : List Cell) (x : PyData) (R1 : PyData → List Cell → Prop) (R2 : List Cell → Prop) : Prop :=
  g (.d x) ⟨wipeA sl vs, cs⟩ fun s1 => tt s1 fun b s2 => if b = true then te s2 fun y s3 => onSome y.data? fun d => R1 d s3.cs else R2 s2.cs
/-- the same over things told as data -/
theorem lcW_map {α : Type} {g : TGA} {tt : TTA} {te : TEA} {vs : List Nat} {ok : List Cell → Prop} {sl : List (Option AVal)} {cs : List Cell} {Q : List PyData → List Cell → Prop} (hok : ok cs) (D : α → PyData) (f : α → Bool) (h : α → PyData) : ∀ {xs : List α} {acc : List PyData},
    (∀ x ∈ xs, ∀ R1 R2, (f x = true → R1 (h x) cs) → (f x = false → R2 cs) → lcStep g tt te vs sl cs (D x) R1 R2) → Q (acc ++ (xs.filter f).map h) cs → lcW g tt te vs ok sl (xs.map D) acc cs Q
  | [], acc, _, q => by
    refine ⟨hok, ?_⟩
    simpa using q
  | x :: xs, acc, hs, q => by
    refine ⟨hok, hs x (List.mem_cons_self ..) (fun d cs' => lcW g tt te vs ok sl (xs.map D) (acc ++ [d]) cs' Q) (fun cs' => lcW g tt te vs ok sl (xs.map D) acc cs' Q) (fun hf => ?_) (fun hf => ?_)⟩
    · refine lcW_map hok D f h (fun y hy => hs y (List.mem_cons_of_mem _ hy)) ?_
      rw [List.filter_cons_of_pos hf] at q
      simpa using q
    · refine lcW_map hok D f h (fun y hy => hs y (List.mem_cons_of_mem _ hy)) ?_
      rw [List.filter_cons_of_neg (by simp [hf])] at q
      exact q
/-- a loop by a word of the turn and the state -/
theorem forW_map {α : Type} {m : Nat} {g : TGA} {t : TSA} {D : DA} (Dt : α → PyData) (xs : List α) (Iv : Nat → AS → Prop) {s : AS} (h0 : Iv 0 s)
    (hs : ∀ i x s' (N : AS → Prop), xs[i]? = some x → Iv i s' → (∀ s2 s3, Wk m s2 s3 → Iv (i + 1) s3 → N s2) → g (.d (Dt x)) s' fun s1 => t ⟨N, D.rt, D.nx, N⟩ s1)
    (hd : ∀ s', Iv xs.length s' → D.nx s') : forW m g t D (xs.map Dt) s := by
  have key : ∀ (n i : Nat) (s' : AS), xs.length = i + n → Iv i s' → forW m g t D ((xs.drop i).map Dt) s' := by
    intro n
    induction n with
    | zero =>
      intro i s' hl hi
      rw [List.drop_eq_nil_of_le (by omega)]
      have : i = xs.length := by omega
      subst this
      exact hd s' hi
    | succ n ih =>
      intro i s' hl hi
      have hlt : i < xs.length := by omega
      have e : xs[i]? = some xs[i] := List.getElem?_eq_getElem hlt
      rw [drop_get e]
      exact hs i _ s' _ e hi fun s2 s3 w h3 => ⟨s3, w, ih (i + 1) s3 (by omega) h3⟩
  exact key xs.length 0 s (by omega) h0
/-- where nothing is forgotten, or slots alone -/
theorem nodup1 {α : Type} {x : α} : [x].Nodup = True := by simp
theorem Wk0.refl {m : Nat} {s : AS} (hm : m ≤ s.cs.length) (hl : ∀ c ∈ s.cs, c.lt s.cs.length) (hs : ∀ (k : Nat) (x : AVal), s.sl[k]? = some (some x) → x.lt s.cs.length) : Wk0 m s s := ⟨rfl, fun k x h => ⟨h, hs k x h⟩, ⟨[], by simp⟩, hl, hm⟩
def ltO (n : Nat) : Option AVal → Prop
  | some x => x.lt n
  | none => True
def SubS (n : Nat) : List (Option AVal) → List (Option AVal) → Prop
  | [], [] => True
  | a :: as, b :: bs => (b = none ∨ (a = b ∧ ltO n b)) ∧ SubS n as bs
  | _, _ => False
theorem SubS.len {n : Nat} : ∀ {a b : List (Option AVal)}, SubS n a b → b.length = a.length
  | [], [], _ => rfl
  | _ :: _, _ :: _, h => by simp [SubS.len h.2]
  | [], _ :: _, h => h.elim
  | _ :: _, [], h => h.elim
theorem SubS.get {n : Nat} : ∀ {a b : List (Option AVal)} {k : Nat} {x : AVal}, SubS n a b → b[k]? = some (some x) → a[k]? = some (some x) ∧ x.lt n
  | [], [], k, x, _, h => by simp at h
  | u :: as, v :: bs, k, x, hs, h => by
    cases k with
    | zero =>
      have e : v = some x := by simpa using h
      subst e
      rcases hs.1 with h1 | ⟨h1, h2⟩
      · cases h1
      · exact ⟨by simp [h1], h2⟩
    | succ k =>
      have := SubS.get (k := k) hs.2 (by simpa using h)
      exact ⟨by simpa using this.1, this.2⟩
  | [], _ :: _, _, _, h, _ => h.elim
  | _ :: _, [], _, _, h, _ => h.elim
def Cell.low : Cell → Bool
  | .nl xs => xs.all AVal.nor
  | .nt _ => false
  | .nd _ => false
  | _ => true
theorem flat_lt {c : Cell} (h : c.low = true) (n : Nat) : c.lt n := by
  cases c with
  | nl xs =>
    intro x hx
    have := List.all_eq_true.mp h x hx
    cases x with
    | r _ => cases this
    | _ => trivial
  | nt _ => cases h
  | nd _ => cases h
  | _ => trivial
theorem wk_of {m : Nat} {sl sl' : List (Option AVal)} {cs cs' : List Cell} (more : List Cell) (hs : SubS cs'.length sl sl') (hc : cs = cs' ++ more) (hl : cs'.all Cell.low = true) (hm : m ≤ cs'.length) : Wk m ⟨sl, cs⟩ ⟨sl', cs'⟩ :=
  .inl ⟨hs.len, fun k x h => hs.get h, ⟨more, hc⟩, fun c hc => flat_lt (List.all_eq_true.mp hl c hc) _, hm⟩
/-- cells taken out in another order -/
def SubQ (m : Nat) (ns : List Nat) : List (Option AVal) → List (Option AVal) → Prop
  | [], [] => True
  | a :: as, b :: bs => (b = none ∨ ∃ y, a = some y ∧ b = some (partQ m ns y) ∧ hasR m ns y) ∧ SubQ m ns as bs
  | _, _ => False
theorem SubQ.len {m : Nat} {ns : List Nat} : ∀ {a b : List (Option AVal)}, SubQ m ns a b → b.length = a.length
  | [], [], _ => rfl
  | _ :: _, _ :: _, h => by simp [SubQ.len h.2]
  | [], _ :: _, h => h.elim
  | _ :: _, [], h => h.elim
theorem SubQ.get {m : Nat} {ns : List Nat} : ∀ {a b : List (Option AVal)} {k : Nat} {x : AVal}, SubQ m ns a b → b[k]? = some (some x) → ∃ y, a[k]? = some (some y) ∧ x = partQ m ns y ∧ hasR m ns y
  | [], [], k, x, _, h => by simp at h
  | u :: as, v :: bs, k, x, hs, h => by
    cases k with
    | zero =>
      have h : v = some x := by simpa using h
      subst h
      rcases hs.1 with e | ⟨y, e1, e2, e3⟩
      · cases e
      · cases e2; exact ⟨y, by simp [e1], rfl, e3⟩
    | succ k => simpa using SubQ.get hs.2 (by simpa using h)
  | [], _ :: _, _, _, h, _ => h.elim
  | _ :: _, [], _, _, h, _ => h.elim
theorem wk_pick {m : Nat} {sl sl' : List (Option AVal)} {cs cs' : List Cell} (ns : List Nat) (new : List Cell) (hs : SubQ m ns sl sl') (nd : ns.Nodup) (hn : ∀ n ∈ ns, m ≤ n) (hsub : subC cs ns = some new) (hc : cs' = cs.take m ++ new) (hl : cs'.all Cell.flat = true) (hm : m ≤ cs.length) : Wk m ⟨sl, cs⟩ ⟨sl', cs'⟩ :=
  .inr ⟨hs.len, hm, ns, new, nd, hn, hsub, hc, fun c h => List.all_eq_true.mp hl c h, fun k x h => hs.get h⟩
theorem atI_natE {α : Type} (xs : List α) (n : Nat) : L2.atI xs (n : Int) = xs[n]? := by
  unfold L2.atI ixN
  rw [if_pos (by omega)]
  by_cases h : (n : Int) < xs.length
  · rw [if_pos h]; rfl
  · rw [if_neg h, List.getElem?_eq_none (by omega)]; rfl
theorem atI_0 {α : Type} (x : α) (xs : List α) : L2.atI (x :: xs) 0 = some x := atI_natE (x :: xs) 0
theorem atI_1 {α : Type} (x y : α) (xs : List α) : L2.atI (x :: y :: xs) 1 = some y := atI_natE (x :: y :: xs) 1
theorem atI_2 {α : Type} (x y z : α) (xs : List α) : L2.atI (x :: y :: z :: xs) 2 = some z := atI_natE (x :: y :: z :: xs) 2
theorem atI_map {α β : Type} (f : α → β) (xs : List α) (i : Int) : L2.atI (xs.map f) i = (L2.atI xs i).map f := by
  unfold L2.atI
  rw [List.length_map]
  cases ixN xs.length i with
  | none => rfl
  | some j => simp
/-- a loop whose state is a function of the turn -/
theorem forW_fun {α : Type} {m : Nat} {g : TGA} {t : TSA} {D : DA} (Dt : α → PyData) (xs : List α) (A : Nat → AS) {s : AS} (h0 : s = A 0)
    (hs : ∀ i x (N : AS → Prop), xs[i]? = some x → (∀ s2, Wk m s2 (A (i + 1)) → N s2) → g (.d (Dt x)) (A i) fun s1 => t ⟨N, D.rt, D.nx, N⟩ s1)
    (hd : D.nx (A xs.length)) : forW m g t D (xs.map Dt) s :=
  forW_map Dt xs (fun i s => s = A i) h0 (fun i x s' N hx e hN => by subst e; exact hs i x N hx fun s2 w => hN s2 _ w rfl) fun s' e => by subst e; exact hd
theorem foldl_erase_len : ∀ (ls L : List Str), (ls.foldl List.erase L).length ≤ L.length
  | [], _ => Nat.le_refl _
  | l :: ls, L => Nat.le_trans (foldl_erase_len ls (L.erase l)) List.length_erase_le
end Kr
/-! layer A11 -/
namespace Kr
open PySem L2
/-! ## promises of the older kind, as transformers -/
def tF (n : Nat) (pre : List PyData → Prop) (fn : List PyData → PyData) : SpT := fun xs cs P => cs = [] ∧ onSome (datas xs) fun ds => ds.length = n ∧ pre ds ∧ P (.f (fn ds)) []
section
variable {Pr : Program} {w : World} {K : PySem.W.Frag} {mg : Str → Option Value} {base : Heap} {k n c : Nat} {f : Addr} {fd : FuncData} {ps : List Str} {pre : List PyData → Prop} {fn : List PyData → PyData} {post : List PyData → PyData → Prop}
theorem inn0 {B : Bs} {ad : List Addr} {F H : Hp} {cs : List Cell} (h : cs.flatMap Cell.ads = []) (hT : B.T = []) : Inn B ad F H cs := ⟨by rw [h]; exact List.nodup_nil, fun q hq => (by rw [h] at hq; cases hq), fun q hq => (by rw [h] at hq; cases hq), fun q hq => (by rw [h] at hq; cases hq), fun b hb => (by rw [hT] at hb; cases hb)⟩
theorem okF_A (G : FnOk Pr w K mg base CX0 k f fd ps (spF n pre fn)) : FnOk Pr w K mg base CX0 k f fd ps (spA n (tF n pre fn)) := G.imp fun vs H Q E ⟨F, ad, cs, xs, P, hl, r, hp, ⟨hc, ds, hd, hn, hpre, hP⟩, q⟩ => by
  subst hc
  have hads : ad = [] := by
    have := r.len
    cases ad with
    | nil => rfl
    | cons _ _ => simp at this
  subst hads
  exact ⟨F, ds, hn, r.fh, datas_ok hp hd, hpre, fun v F2 H2 g hv => q v H2 (.inl ⟨F2, fn ds, [], r.gr g, (fun _ h => nomatch h), hv, hP⟩)⟩
theorem rl_gp {F H F2 H2 : Hp} {p : Addr} {m m2 : Nat} (r : Rl (Bs.at [p] F H []) [p] F H ⟨[], [.pool m]⟩ []) (g : Gp p F H F2 H2) (hP : Pool H2 p m2) : Rl (Bs.at [p] F H []) [p] F2 H2 ⟨[], [.pool m2]⟩ [] := by
  have hF : F p = none := (r.cel 0 p (.pool m) rfl rfl).2.1 rfl
  have hF2 : F2 p = none := g.new p hF (r.cel 0 p (.pool m) rfl rfl).1
  refine ⟨g.ff, g.fh, fun b o hb _ e => g.hh b o (fun z => hb (by simp [Bs.at, z])) e, fun b hb => ?_, fun b e n => g.new b e n, r.pre, r.nd, rfl, fun i q c h1 h2 => ?_, rfl, fun k x h => by simp at h, inn0 rfl rfl⟩
  · have : b = p := by simpa [Bs.at] using hb
    subst this
    obtain ⟨o, ho⟩ := hP.some
    exact ne_none ho
  · cases i with
    | succ i => simp at h1
    | zero =>
      have e1 : p = q := by simpa using h1
      have e2 : Cell.pool m2 = c := by simpa using h2
      subst e1; subst e2
      obtain ⟨o, ho⟩ := hP.some
      exact ⟨ne_none ho, fun _ => hF2, hP⟩
theorem pool1 {ad : List Addr} {F H : Hp} {m : Nat} (r : Rl (Bs.at ad F H []) ad F H ⟨[], [.pool m]⟩ []) : ∃ p, ad = [p] ∧ Pool H p m ∧ F p = none := by
  have hl := r.len
  match ad, hl with
  | [p], _ =>
    obtain ⟨h1, h2, h3⟩ := r.cel 0 p (.pool m) rfl rfl
    exact ⟨p, rfl, h3, h2 rfl⟩
def tPool (K : PySem.W.Frag) : SpT := fun xs cs P => match xs, cs with
  | [.s K' ns, .d (.int k)], [] => K' = K ∧ 0 ≤ k ∧ k ≤ 1000 ∧ P (.n (.pool (53 * k.toNat))) []
  | _, _ => False
theorem rl_nil {F H F2 H2 : Hp} (s : Same F F2) (s2 : Same F2 H2) (h : ∀ b o, H b = some o → H2 b = some o) (hn : ∀ b, F b = none → H b ≠ none → F2 b = none) : Rl (Bs.at [] F H []) [] F2 H2 ⟨[], []⟩ [] := by
  refine ⟨s, s2, fun b o _ _ e => h b o e, ?_, hn, ⟨[], rfl, ?_⟩, List.nodup_nil, rfl, ?_, rfl, ?_, inn0 rfl rfl⟩
  · intro b hb; rcases hb with hb | hb <;> cases hb
  · intro b hb; cases hb
  · intro i p c h1; cases h1
  · intro k x h; cases h
theorem pool_post {F H H' : Hp} {p : Addr} {n : Nat} {P : RV → List Cell → Prop} (s0 : Same F H) (hp0 : H p = none) (sH : Same H H') (hPool : Pool H' p n) (hP : P (.n (.pool n)) []) : RPost [] F H [] P (.ref p) H' := by
  obtain ⟨o, ho⟩ := hPool.some
  have hFp : F p = none := s0.free hp0
  refine .inr (.inl ⟨F, .pool n, [], p, out H' p, o, rl_nil (Same.refl _) ?_ ?_ (fun _ e _ => e), ?_, rfl, out_same, (upd_out ho).symm, hPool, rfl, rfl, hP⟩)
  · intro b x e
    rw [out_ne (ne_of_none e hFp)]; exact sH _ _ (s0 _ _ e)
  · intro b x e
    rw [out_ne (ne_of_none e hp0)]; exact sH _ _ e
  · intro c hc; cases hc
theorem okPool_A {sp : Sp} (G : FnOk Pr w K mg base CX0 k f fd ps sp) (hsp : ∀ vs H Q E, (∃ (a : Addr) (ns : List Int) (k : Nat), vs = [.ref a, .int k] ∧ SqL K H a (ns.map V.int) ∧ k ≤ 1000 ∧ ∀ p H', H p = none → Same H H' → Pool H' p (53 * k) → Q (.ref p) H') → sp vs H Q E) : FnOk Pr w K mg base CX0 k f fd ps (spA 2 (tPool K)) := by
  refine G.imp fun vs H Q E ⟨F, ad, cs, xs, P, hl, r, hp, ht, q⟩ => hsp vs H Q E ?_
  unfold tPool at ht
  split at ht
  · rename_i K' ns i
    obtain ⟨rfl, h0, hk, hP⟩ := ht
    have hads : ad = [] := by
      have := r.len
      cases ad with
      | nil => rfl
      | cons _ _ => simp at this
    subst hads
    cases hp with
    | cons h1 t =>
      cases t with
      | cons h2 t2 =>
        cases t2
        obtain ⟨a, rfl, hS⟩ := h1
        obtain ⟨j, rfl⟩ := Int.eq_ofNat_of_zero_le h0
        refine ⟨a, ns, j, ?_, r.fh.seq hS, by omega, fun p H' hp0 sH hPool => ?_⟩
        · rw [show _ = V.int (j : Int) from h2]
        · rw [Int.toNat_natCast] at hP
          exact q _ H' (pool_post r.fh hp0 sH hPool hP)
  · exact ht.elim
/-- the law itself -/
theorem okLaw_A {t : SpT} (G : FnOk Pr w K mg base CX0 k f fd ps (spA 1 t)) (h : ∀ ns : List Int, ns.length ≤ 63 → t [.s K ns] [] fun rv _ => rv = .f (.bool true)) : FnOk Pr w K mg base CX0 k f fd ps (spLaw K) := G.imp fun vs H Q E ⟨a, ns, hv, hS, hl, q⟩ => by
  subst hv
  refine ⟨H, [], [], [.s K ns], fun rv _ => rv = .f (.bool true), rfl, ⟨Same.refl _, Same.refl _, fun _ _ _ _ e => e, (fun _ h => by rcases h with h | h <;> cases h), fun _ e _ => e, ⟨[], rfl, (fun _ h => nomatch h)⟩, List.nodup_nil, rfl, fun i p c h1 => by simp at h1, rfl, fun k x h => by simp at h, inn0 rfl rfl⟩, .cons ⟨a, rfl, hS⟩ .nil, h ns hl, fun v H2 hp => ?_⟩
  rcases hp with ⟨F2, x, cs2, _, _, hd, e⟩ | ⟨F2, c, cs2, p, H1, o, _, _, _, _, _, _, _, _, e⟩ | ⟨_, _, _, _, _, _, _, e⟩ | ⟨_, _, _, _, _, _, _, _, e⟩ | ⟨_, _, _, _, _, _, _, _, _, _, _, _, _, e⟩
  · cases e
    obtain rfl : v = .bl true := hd
    exact q H2
  · cases e
  · cases e
  · cases e
  · cases e
end
end Kr
/-! layer A12 -/
namespace Kr
open PySem L2
/-! ## how transformers open, constructor by constructor -/
section
variable {s : AS} {Q : VQ} {x y : AVal} {ds es : List PyData} {i : Int} {z : Str} {n : Nat} {b : Bool} {P : RV → List Cell → Prop} {m : Nat} {d : PyData} {kvs : List (Key × AVal)} {xs : List AVal} {QT : Bool → AS → Prop} {K : PySem.W.Frag} {ns : List Int}
theorem retP_d : retP m P (.d d) s = ((s.cs.take m).all Cell.flat = true ∧ P (.f d) (s.cs.take m)) := rfl
def retC (m n : Nat) (P : RV → List Cell → Prop) (s : AS) : Cell → Prop
  | .fz y => P (.f y) (s.cs.take m)
  | .lst ds => P (.n (.lst ds)) (s.cs.take m)
  | .dK ds => P (.n (.dK ds)) (s.cs.take m)
  | .pool k => P (.n (.pool k)) (s.cs.take m)
  | .tr t => P (.t t) (s.cs.take m)
  | .nt xs => parts m s.cs P xs
  | .nl xs => xs.all AVal.nor = true ∧ P (.n (.nl xs)) (s.cs.take m)
  | _ => False
theorem retC_ok : ∀ {c : Cell}, retC m n P s c → (match c with | .fz y => P (.f y) (s.cs.take m) | .tr t => P (.t t) (s.cs.take m) | .nt xs => parts m s.cs P xs | c => c.live = true ∧ c.flat = true ∧ P (.n c) (s.cs.take m)) := by
  intro c h
  cases c with
  | fz y => exact h
  | lst _ => exact ⟨rfl, rfl, h⟩
  | dK _ => exact ⟨rfl, rfl, h⟩
  | pool _ => exact ⟨rfl, rfl, h⟩
  | gone => exact h.elim
  | nl _ => exact ⟨rfl, h.1, h.2⟩
  | nt _ => exact h
  | nd _ => exact h.elim
  | dl _ _ _ => exact h.elim
  | tr _ => exact h
theorem retC_of : ∀ {c : Cell}, (match c with | .fz y => P (.f y) (s.cs.take m) | .tr t => P (.t t) (s.cs.take m) | .nt xs => parts m s.cs P xs | c => c.live = true ∧ c.flat = true ∧ P (.n c) (s.cs.take m)) → retC m n P s c := by
  intro c h
  cases c with
  | fz y => exact h
  | lst _ => exact h.2.2
  | dK _ => exact h.2.2
  | pool _ => exact h.2.2
  | gone => exact Bool.noConfusion h.1
  | nl _ => exact ⟨h.2.1, h.2.2⟩
  | nt _ => exact h
  | nd _ => exact Bool.noConfusion h.2.1
  | dl _ _ _ => exact Bool.noConfusion h.2.1
  | tr _ => exact h
theorem retP_rE : retP m P (.r n) s = ((s.cs.take m).all Cell.flat = true ∧ if n < m then P (.p n) (s.cs.take m) else onSome s.cs[n]? (retC m n P s)) := by
  unfold retP
  refine congrArg _ ?_
  dsimp only
  split
  · rfl
  · exact propext ⟨fun ⟨c, hc, h⟩ => ⟨c, hc, retC_of h⟩, fun ⟨c, hc, h⟩ => ⟨c, hc, retC_ok h⟩⟩
theorem retC_nt {ys : List AVal} : retC m n P s (.nt ys) = parts m s.cs P ys := rfl
theorem retC_tr {t : Tr} : retC m n P s (.tr t) = P (.t t) (s.cs.take m) := rfl
theorem addA_int : addA (.d (.int i)) y s Q = onSome y.int? fun j => Q (.d (.int (i + j))) s := rfl
theorem addA_str : addA (.d (.str z)) y s Q = onSome y.str? fun q => z.length + q.length ≤ sizeLine ∧ Q (.d (.str (z ++ q))) s := rfl
theorem addA_lst : addA (.d (.list ds)) y s Q = onSome (listOf s y) fun es => ds.length + es.length ≤ sizeLine ∧ Q (.d (.list (ds ++ es))) s := by
  show onSome (some ds) _ = _; rw [onSome_some]
theorem addA_r : addA (.r n) y s Q = onSome (listOf s (.r n)) fun ds => onSome (listOf s y) fun es => ds.length + es.length ≤ sizeLine ∧ Q (.d (.list (ds ++ es))) s := rfl
theorem mulA_int : mulA (.d (.int i)) y s Q = onSome y.int? fun j => CMul i j ∧ Q (.d (.int (i * j))) s := rfl
theorem mulA_lst : mulA (.d (.list ds)) y s Q = onSome y.int? fun n => (-(2 ^ 63) ≤ n ∧ n < 2 ^ 63 ∧ ds.length * n.toNat ≤ sizeLine) ∧ Q (.d (.list (repL n ds))) s := by
  show onSome (some ds) _ = _; rw [onSome_some]
theorem mulA_r : mulA (.r n) y s Q = onSome (listOf s (.r n)) fun ds => onSome y.int? fun n => (-(2 ^ 63) ≤ n ∧ n < 2 ^ 63 ∧ ds.length * n.toNat ≤ sizeLine) ∧ Q (.d (.list (repL n ds))) s := rfl
theorem ltT_str : ltT (.d (.str z)) y s QT = onSome y.str? fun q => QT (decide (z.cps.toList < q.cps.toList)) s := rfl
theorem ltT_int : ltT (.d (.int i)) y s QT = onSome y.int? fun j => QT (decide (i < j)) s := by
  show onSome (some i) _ = _; rw [onSome_some]
def ixV (s : AS) (y : AVal) (Q : VQ) : View → Prop
  | .seq xs => onSome y.int? fun i => onSome (L2.atI xs i) fun z => Q z s
  | .dct kvs => onSome y.key? fun k => onSome (getA kvs k) fun z => Q z s
  | .txt z => onSome y.int? fun i => z.length ≤ sizeLine ∧ onSome (L2.atI z.cps.toList i) fun c => Q (.d (.str ⟨#[c]⟩)) s
  | .oth => False
theorem ixA_V : ixA x y s Q = ixV s y Q (view s x) := by unfold ixA ixV; cases view s x <;> rfl
def slV (lo hi : Option Int) (x : AVal) (s : AS) (Q : VQ) : View → Prop
  | .txt z => z.length ≤ sizeLine ∧ Q (.d (.str (cutS z lo hi))) s
  | .seq _ => onSome (listOf s x) fun ds => Q (.d (.list (cutD ds lo hi))) s
  | _ => onSome (listOf s x) fun ds => Q (.d (.list (cutD ds lo hi))) s
theorem slA_V {lo hi : Option Int} : slA lo hi x s Q = slV lo hi x s Q (view s x) := by unfold slA slV; cases view s x <;> rfl
def inV' (neg : Bool) (x y : AVal) (s : AS) (Q : Bool → AS → Prop) : View → Prop
  | .dct kvs => onSome x.key? fun k => Q ((getA kvs k).isSome != neg) s
  | .txt z => onSome x.str? fun w => onSome (w.cps.toList.head?) fun c => w = ⟨#[c]⟩ ∧ Q (decide (c ∈ z.cps.toList) != neg) s
  | .seq _ => onSome (listOf s y) fun ds => onSome x.data? fun d => (flatD d = true ∧ ds.all flatD = true) ∧ Q (inD d ds != neg) s
  | .oth => onSome (listOf s y) fun ds => onSome x.data? fun d => (flatD d = true ∧ ds.all flatD = true) ∧ Q (inD d ds != neg) s
theorem inT_V {neg : Bool} : inT neg x y s QT = inV' neg x y s QT (view s y) := by unfold inT inV'; cases view s y <;> rfl
def tup2V (g1 g2 : TGA) (s : AS) (Q : AS → Prop) : List AVal → Prop
  | [x1, x2] => g1 x1 s fun s1 => g2 x2 s1 Q
  | _ => False
theorem tup2G_V {g1 g2 : TGA} {Q : AS → Prop} : tup2G g1 g2 x s Q = onSome (tupOf s x) (tup2V g1 g2 s Q) := by
  unfold tup2G
  congr 1
def tup3V (g1 g2 g3 : TGA) (s : AS) (Q : AS → Prop) : List AVal → Prop
  | [x1, x2, x3] => g1 x1 s fun s1 => g2 x2 s1 fun s2 => g3 x3 s2 Q
  | _ => False
theorem tup3G_V {g1 g2 g3 : TGA} {Q : AS → Prop} : tup3G g1 g2 g3 x s Q = onSome (tupOf s x) (tup3V g1 g2 g3 s Q) := by
  unfold tup3G
  congr 1
def lenV (s : AS) (Q : VQ) : View → Prop
  | .seq ys => Q (.d (.int ys.length)) s
  | .dct kvs => Q (.d (.int kvs.length)) s
  | .txt z => z.length ≤ sizeLine ∧ Q (.d (.int z.length)) s
  | .oth => False
theorem lenA_V : lenA [x] s Q = lenV s Q (view s x) := by unfold lenA lenV; dsimp only [one]; try (cases view s x <;> rfl)
def sortV (x : AVal) (s : AS) (Q : Cell → AS → Prop) : View → Prop
  | .dct kvs => onSome (txtKeys kvs) fun ks => ks.length < 64 ∧ Q (.lst ((srt ks).map .str)) s
  | .seq _ => onSome (listOf s x) fun ds => onSome (srtD ds) fun es => Q (.lst es) s
  | .txt _ => onSome (listOf s x) fun ds => onSome (srtD ds) fun es => Q (.lst es) s
  | .oth => onSome (listOf s x) fun ds => onSome (srtD ds) fun es => Q (.lst es) s
theorem sortedN_V {QN : Cell → AS → Prop} : sortedN [x] s QN = sortV x s QN (view s x) := by unfold sortedN sortV; dsimp only [one]; cases view s x <;> rfl
def gotV (y z : AVal) (s : AS) (Q : VQ) : View → Prop
  | .dct kvs => onSome y.key? fun k => Q ((getA kvs k).getD z) s
  | _ => False
def isDctV : View → Prop
  | .dct _ => True
  | _ => False
theorem isDct_V : isDct s x = isDctV (view s x) := by unfold isDct isDctV; cases view s x <;> rfl
theorem getA2_V {to te tf : TEA} : getA2 to te tf s Q = to s fun x s1 => isDct s1 x ∧ te s1 fun y s2 => tf s2 fun z s3 => gotV y z s3 Q (view s3 x) := by
  rfl
def lstC (k : List PyData → Prop) : Cell → Prop
  | .lst ds => k ds
  | _ => False
theorem onLst_r {k : Nat → List PyData → Prop} : onLst s (.r n) k = onSome s.cs[n]? (lstC (k n)) := by
  show (match s.cs[n]? with | some (.lst ds) => k n ds | _ => False) = onSome s.cs[n]? (lstC (k n))
  generalize s.cs[n]? = o
  cases o with
  | none => exact propext ⟨fun h => h.elim, fun ⟨_, e, _⟩ => by cases e⟩
  | some c => rw [onSome_some]; cases c <;> rfl
def dctC (k : List (Key × PyData) → Prop) : Cell → Prop
  | .dK ds => k ds
  | _ => False
theorem onDct_r {k : Nat → List (Key × PyData) → Prop} : onDct s (.r n) k = onSome s.cs[n]? (dctC (k n)) := by
  show (match s.cs[n]? with | some (.dK ds) => k n ds | _ => False) = onSome s.cs[n]? (dctC (k n))
  generalize s.cs[n]? = o
  cases o with
  | none => exact propext ⟨fun h => h.elim, fun ⟨_, e, _⟩ => by cases e⟩
  | some c => rw [onSome_some]; cases c <;> rfl
theorem intA_int : intA [.d (.int i)] s Q = Q (.d (.int i)) s := rfl
theorem intA_bool : intA [.d (.bool b)] s Q = Q (.d (.int (if b then 1 else 0))) s := rfl
def fzC (m n : Nat) (s : AS) (Q : VQ) : Cell → Prop
  | .fz d => Q (.d d) s
  | .lst ds => m ≤ n ∧ Q (.d (.list ds)) ⟨s.sl, s.cs.set n (.fz (.list ds))⟩
  | .dK ds => m ≤ n ∧ Q (.d (dictD ds)) ⟨s.sl, s.cs.set n (.fz (dictD ds))⟩
  | _ => False
def fzV (m : Nat) (s : AS) (Q : VQ) : AVal → Prop
  | .r n => onSome s.cs[n]? (fzC m n s Q)
  | .d x => Q (.d x) s
  | .s K ns => Q (.s K ns) s
  | .a p n pt => Q (.a p n pt) s
theorem fzA_V {k : Nat} : fzA m k s Q = onSome (s.sl[k]?.bind id) (fzV m s Q) := by
  unfold fzA
  congr 1; funext x
  cases x with
  | d _ => rfl
  | s _ _ => rfl
  | a _ _ _ => rfl
  | r n =>
    show (onSome s.cs[n]? fun c => match c with | .fz d => Q (.d d) s | c => (m ≤ n ∧ c.live = true) ∧ onSome (frzC c) fun d => Q (.d d) ⟨s.sl, s.cs.set n (.fz d)⟩) = onSome s.cs[n]? (fzC m n s Q)
    congr 1; funext c
    cases c with
    | fz d => rfl
    | lst ds => exact propext ⟨fun ⟨h1, d, e, h2⟩ => by cases e; exact ⟨h1.1, h2⟩, fun ⟨h1, h2⟩ => ⟨⟨h1, rfl⟩, _, rfl, h2⟩⟩
    | dK ds => exact propext ⟨fun ⟨h1, d, e, h2⟩ => by cases e; exact ⟨h1.1, h2⟩, fun ⟨h1, h2⟩ => ⟨⟨h1, rfl⟩, _, rfl, h2⟩⟩
    | pool _ => exact propext ⟨(fun ⟨h1, d, e, h2⟩ => by cases e), (fun h => False.elim h)⟩
    | gone => exact propext ⟨(fun ⟨h1, d, e, h2⟩ => by cases e), (fun h => False.elim h)⟩
    | nl _ => exact propext ⟨(fun ⟨h1, d, e, h2⟩ => by cases e), (fun h => False.elim h)⟩
    | nt _ => exact propext ⟨(fun ⟨h1, d, e, h2⟩ => by cases e), (fun h => False.elim h)⟩
    | nd _ => exact propext ⟨(fun ⟨h1, d, e, h2⟩ => by cases e), (fun h => False.elim h)⟩
    | dl _ _ _ => exact propext ⟨(fun ⟨h1, d, e, h2⟩ => by cases e), (fun h => False.elim h)⟩
    | tr _ => exact propext ⟨(fun ⟨h1, d, e, h2⟩ => by cases e), (fun h => False.elim h)⟩
theorem resF_f : resF Q (.f d) s = Q (.d d) s := rfl
theorem resF_n {c : Cell} : resF Q (.n c) s = onSome (frzC c) fun d => Q (.d d) s := rfl
theorem resO_f {nn : List Nat} : resO nn Q (.f d) s = Q (.d d) s := rfl
theorem resO_n {c : Cell} {nn : List Nat} : resO nn Q (.n c) s = Q (.r s.cs.length) ⟨s.sl, s.cs ++ [c]⟩ := rfl
theorem resO_t {t : Tr} {nn : List Nat} : resO nn Q (.t t) s = Q (.r s.cs.length) ⟨s.sl, s.cs ++ [.tr t]⟩ := rfl
theorem resO_p {k : Nat} {nn : List Nat} : resO nn Q (.p k) s = onSome nn[k]? fun n => Q (.r n) s := rfl
theorem scrLen_V {k : Nat} {ns : List Int} (h : s.sl[k]? = some (some (.s K ns))) : scrLen K k s Q = Q (.d (.int ns.length)) s := by
  unfold scrLen; rw [h]; exact propext ⟨fun ⟨_, e, h⟩ => by cases e; exact h.2, fun h => ⟨_, rfl, rfl, h⟩⟩
def listC : Cell → Option (List PyData)
  | .lst ds => some ds
  | .fz (.list ds) => some ds
  | .tr (.nd .lst _ xs) => leafs xs
  | _ => none
theorem listOf_r : listOf s (.r n) = s.cs[n]?.bind listC := by
  show (match s.cs[n]? with | some (.lst ds) => some ds | some (.fz (.list ds)) => some ds | some (.tr (.nd .lst _ xs)) => leafs xs | _ => none) = s.cs[n]?.bind listC
  generalize s.cs[n]? = o
  cases o with
  | none => rfl
  | some c => cases c with
    | fz y => cases y <;> rfl
    | tr t => cases t with
      | d _ => rfl
      | nd k _ _ => cases k <;> rfl
    | _ => rfl
theorem listC_tr {a : Addr} {ts : List Tr} : listC (.tr (.nd .lst a ts)) = leafs ts := rfl
theorem listOf_a {p : Addr} {pt : List Nat} : listOf s (.a p n pt) = leafL (nodeAt s (.a p n pt)) := rfl
theorem leafL_l {a : Addr} {pt : List Nat} {ts : List Tr} : leafL (some (n, pt, .lst, a, ts)) = leafs ts := rfl
theorem listOf_d : listOf s (.d (.list ds)) = some ds := rfl
def fzListC : Cell → Option (List PyData)
  | .fz (.list ds) => some ds
  | _ => none
theorem fzList_r : fzList s (.r n) = s.cs[n]?.bind fzListC := by
  show (match s.cs[n]? with | some (.fz (.list ds)) => some ds | _ => none) = s.cs[n]?.bind fzListC
  generalize s.cs[n]? = o
  cases o with
  | none => rfl
  | some c => cases c with
    | fz y => cases y <;> rfl
    | _ => rfl
theorem fzList_d : fzList s (.d (.list ds)) = some ds := rfl
def isLstC : Cell → Bool
  | .lst _ => true
  | .nl _ => true
  | .fz (.list _) => true
  | .tr (.nd .lst _ _) => true
  | _ => false
theorem isLst_r : isLst s (.r n) = (s.cs[n]?.map isLstC).getD false := by
  show (match s.cs[n]? with | some (.lst _) => true | some (.nl _) => true | some (.fz (.list _)) => true | some (.tr (.nd .lst _ _)) => true | _ => false) = (s.cs[n]?.map isLstC).getD false
  generalize s.cs[n]? = o
  cases o with
  | none => rfl
  | some c => cases c with
    | fz y => cases y <;> rfl
    | tr t => cases t with
      | d _ => rfl
      | nd k _ _ => cases k <;> rfl
    | _ => rfl
theorem isLstC_tr {a : Addr} {ts : List Tr} : isLstC (.tr (.nd .lst a ts)) = true := rfl
theorem isLst_a {p : Addr} {pt : List Nat} : isLst s (.a p n pt) = match nodeK s (.a p n pt) with | some .lst => true | _ => false := rfl
theorem isLst_d : isLst s (.d (.list ds)) = true := rfl
theorem view_r : view s (.r n) = (s.cs[n]?.map (viewC n)).getD .oth := by
  show (match s.cs[n]? with | some c => viewC n c | none => .oth) = (s.cs[n]?.map (viewC n)).getD .oth
  generalize s.cs[n]? = o
  cases o with
  | none => rfl
  | some c => cases c with
    | _ => rfl
theorem view_d : view s (.d d) = viewD d := rfl
theorem viewD_list : viewD (.list ds) = .seq (ds.map .d) := rfl
theorem viewD_tuple : viewD (.tuple ds) = .seq (ds.map .d) := rfl
theorem viewD_str : viewD (.str z) = .txt z := rfl
theorem viewD_dictD {k : List (Key × PyData)} : viewD (dictD k) = .dct (dkv k) := view_dictD (s := ⟨[], []⟩)
def tyC : Cell → Option String
  | .lst _ => some "list"
  | .nl _ => some "list"
  | .nt _ => some "tuple"
  | .dK _ => some "dict"
  | .nd _ => some "dict"
  | .fz x => tyD x
  | .tr (.nd k _ _) => kdTy k
  | _ => none
theorem tyOf_r : tyOf s (.r n) = s.cs[n]?.bind tyC := by
  show (match s.cs[n]? with | some (.lst _) => some "list" | some (.nl _) => some "list" | some (.nt _) => some "tuple" | some (.dK _) => some "dict" | some (.nd _) => some "dict" | some (.fz x) => tyD x | some (.tr (.nd k _ _)) => kdTy k | _ => none) = s.cs[n]?.bind tyC
  generalize s.cs[n]? = o
  cases o with
  | none => rfl
  | some c => cases c with
    | tr t => cases t <;> rfl
    | _ => rfl
theorem tyC_tr {k : Kd} {a : Addr} {ts : List Tr} : tyC (.tr (.nd k a ts)) = kdTy k := rfl
theorem tyOf_a {p : Addr} {pt : List Nat} : tyOf s (.a p n pt) = (nodeK s (.a p n pt)).bind kdTy := rfl
theorem kdTy_lst : kdTy .lst = some "list" := rfl
theorem kdTy_tup : kdTy .tup = some "tuple" := rfl
theorem kdTy_dct {ks : List Key} : kdTy (.dct ks) = some "dict" := rfl
theorem tyOf_d : tyOf s (.d d) = tyD d := rfl
def tupC : Cell → Option (List AVal)
  | .nt xs => some xs
  | .nl xs => some xs
  | .lst ds => some (ds.map .d)
  | .fz (.tuple ds) => some (ds.map .d)
  | .fz (.list ds) => some (ds.map .d)
  | _ => none
theorem tupOf_r : tupOf s (.r n) = s.cs[n]?.bind tupC := by
  show (match s.cs[n]? with | some (.nt xs) => some xs | some (.nl xs) => some xs | some (.lst ds) => some (ds.map .d) | some (.fz (.tuple ds)) => some (ds.map .d) | some (.fz (.list ds)) => some (ds.map .d) | _ => none) = s.cs[n]?.bind tupC
  generalize s.cs[n]? = o
  cases o with
  | none => rfl
  | some c => cases c with
    | fz y => cases y <;> rfl
    | _ => rfl
theorem tupOf_d : tupOf s (.d (.tuple ds)) = some (ds.map .d) := rfl
theorem tupOf_dl : tupOf s (.d (.list ds)) = some (ds.map .d) := rfl
def iterOC (n : Nat) (s : AS) (Q : List PyData → (List Cell → Prop) → AS → Prop) : Cell → Prop
  | .lst ds => Q ds (fun cs => cs[n]? = some (.lst ds)) s
  | .fz (.list ds) => Q ds (fun _ => True) s
  | _ => False
def iterOV (s : AS) (Q : List PyData → (List Cell → Prop) → AS → Prop) : AVal → Prop
  | .r n => onSome s.cs[n]? (iterOC n s Q)
  | .d (.list ds) => Q ds (fun _ => True) s
  | .a p n pt => onSome (leafL (nodeAt s (.a p n pt))) fun ds => Q ds (fun cs => leafL (nodeAt ⟨[], cs⟩ (.a p n pt)) = some ds) s
  | _ => False
theorem iterO_V {ta : TEA} {QO : List PyData → (List Cell → Prop) → AS → Prop} : iterO ta s QO = ta s fun x s1 => iterOV s1 QO x := by
  rfl
theorem eqOk_int {j : Int} : eqOk (.int i) (.int j) = True := rfl
theorem eqOk_str {w : Str} : eqOk (.str z) (.str w) = True := rfl
theorem eqOk_bool {c : Bool} : eqOk (.bool b) (.bool c) = True := rfl
theorem eqv_int {j : Int} : PyData.eqv (.int i) (.int j) = decide (i = j) := by simp [PyData.eqv, Bool.beq_eq_decide_eq]
theorem eqv_str {w : Str} : PyData.eqv (.str z) (.str w) = decide (z = w) := by simp [PyData.eqv, Bool.beq_eq_decide_eq]
theorem eqv_bool {c : Bool} : PyData.eqv (.bool b) (.bool c) = decide (b = c) := by simp [PyData.eqv, Bool.beq_eq_decide_eq]
theorem scrLen_0 {sl : List (Option AVal)} {cs : List Cell} : scrLen K 0 ⟨some (.s K ns) :: sl, cs⟩ Q = Q (.d (.int ns.length)) ⟨some (.s K ns) :: sl, cs⟩ := scrLen_V rfl
theorem kb_ll : kitB "list" "list" = some true := by decide +kernel
theorem kb_ii : kitB "int" "int" = some true := by decide +kernel
theorem kb_ib : kitB "int" "bool" = some false := by decide +kernel
theorem kb_bb : kitB "bool" "bool" = some true := by decide +kernel
theorem kb_bi : kitB "bool" "int" = some true := by decide +kernel
theorem kb_ss : kitB "str" "str" = some true := by decide +kernel
theorem kb_tt : kitB "tuple" "tuple" = some true := by decide +kernel
theorem kb_dd : kitB "dict" "dict" = some true := by decide +kernel
theorem ixV_seq : ixV s y Q (.seq xs) = onSome y.int? fun i => onSome (L2.atI xs i) fun z => Q z s := rfl
theorem ixV_dct : ixV s y Q (.dct kvs) = onSome y.key? fun k => onSome (getA kvs k) fun z => Q z s := rfl
theorem ixV_txt : ixV s y Q (.txt z) = onSome y.int? fun i => z.length ≤ sizeLine ∧ onSome (L2.atI z.cps.toList i) fun c => Q (.d (.str ⟨#[c]⟩)) s := rfl
theorem slV_txt {lo hi : Option Int} : slV lo hi x s Q (.txt z) = (z.length ≤ sizeLine ∧ Q (.d (.str (cutS z lo hi))) s) := rfl
theorem slV_seq {lo hi : Option Int} : slV lo hi x s Q (.seq xs) = onSome (listOf s x) fun ds => Q (.d (.list (cutD ds lo hi))) s := rfl
theorem inV'_dct {neg : Bool} : inV' neg x y s QT (.dct kvs) = onSome x.key? fun k => QT ((getA kvs k).isSome != neg) s := rfl
theorem inV'_txt {neg : Bool} : inV' neg x y s QT (.txt z) = onSome x.str? fun w => onSome (w.cps.toList.head?) fun c => w = ⟨#[c]⟩ ∧ QT (decide (c ∈ z.cps.toList) != neg) s := rfl
theorem inV'_seq {neg : Bool} : inV' neg x y s QT (.seq xs) = onSome (listOf s y) fun ds => onSome x.data? fun d => (flatD d = true ∧ ds.all flatD = true) ∧ QT (inD d ds != neg) s := rfl
theorem tup2V_2 {g1 g2 : TGA} {QS : AS → Prop} : tup2V g1 g2 s QS [x, y] = g1 x s fun s1 => g2 y s1 QS := rfl
theorem tup3V_3 {g1 g2 g3 : TGA} {QS : AS → Prop} {w : AVal} : tup3V g1 g2 g3 s QS [x, y, w] = g1 x s fun s1 => g2 y s1 fun s2 => g3 w s2 QS := rfl
theorem lenV_seq : lenV s Q (.seq xs) = Q (.d (.int xs.length)) s := rfl
theorem lenV_dct : lenV s Q (.dct kvs) = Q (.d (.int kvs.length)) s := rfl
theorem lenV_txt : lenV s Q (.txt z) = (z.length ≤ sizeLine ∧ Q (.d (.int z.length)) s) := rfl
theorem sortV_dct {QN : Cell → AS → Prop} : sortV x s QN (.dct kvs) = onSome (txtKeys kvs) fun ks => ks.length < 64 ∧ QN (.lst ((srt ks).map .str)) s := rfl
theorem sortV_seq {QN : Cell → AS → Prop} : sortV x s QN (.seq xs) = onSome (listOf s x) fun ds => onSome (srtD ds) fun es => QN (.lst es) s := rfl
theorem gotV_dct {w : AVal} : gotV y w s Q (.dct kvs) = onSome y.key? fun k => Q ((getA kvs k).getD w) s := rfl
theorem isDctV_dct : isDctV (.dct kvs) = True := rfl
theorem lstC_lst {kk : List PyData → Prop} : lstC kk (.lst ds) = kk ds := rfl
theorem dctC_dK {kk : List (Key × PyData) → Prop} {kd : List (Key × PyData)} : dctC kk (.dK kd) = kk kd := rfl
theorem fzV_r : fzV m s Q (.r n) = onSome s.cs[n]? (fzC m n s Q) := rfl
theorem fzV_d : fzV m s Q (.d d) = Q (.d d) s := rfl
theorem fzC_fz : fzC m n s Q (.fz d) = Q (.d d) s := rfl
theorem fzC_lst : fzC m n s Q (.lst ds) = (m ≤ n ∧ Q (.d (.list ds)) ⟨s.sl, s.cs.set n (.fz (.list ds))⟩) := rfl
theorem fzC_dK {kd : List (Key × PyData)} : fzC m n s Q (.dK kd) = (m ≤ n ∧ Q (.d (dictD kd)) ⟨s.sl, s.cs.set n (.fz (dictD kd))⟩) := rfl
theorem listC_lst : listC (.lst ds) = some ds := rfl
theorem listC_fz : listC (.fz (.list ds)) = some ds := rfl
theorem fzListC_fz : fzListC (.fz (.list ds)) = some ds := rfl
theorem isLstC_lst : isLstC (.lst ds) = true := rfl
theorem isLstC_fz : isLstC (.fz (.list ds)) = true := rfl
theorem isLstC_nl : isLstC (.nl xs) = true := rfl
theorem viewC_lst : viewC n (.lst ds) = .seq (ds.map .d) := rfl
theorem viewC_nl : viewC n (.nl xs) = .seq xs := rfl
theorem viewC_nt : viewC n (.nt xs) = .seq xs := rfl
theorem viewC_dK {kd : List (Key × PyData)} : viewC n (.dK kd) = .dct (dkv kd) := rfl
theorem viewC_nd : viewC n (.nd kvs) = .dct kvs := rfl
theorem viewC_fz : viewC n (.fz d) = viewD d := rfl
theorem viewC_tr {k : Kd} {a : Addr} {ts : List Tr} : viewC n (.tr (.nd k a ts)) = viewT n [] k ts := rfl
theorem viewT_l {pt : List Nat} {ts : List Tr} : viewT n pt .lst ts = .seq (kids n pt ts) := rfl
theorem viewT_t {pt : List Nat} {ts : List Tr} : viewT n pt .tup ts = .seq (kids n pt ts) := rfl
theorem viewT_d {pt : List Nat} {ts : List Tr} {ks : List Key} : viewT n pt (.dct ks) ts = .dct (ks.zip (kids n pt ts)) := rfl
theorem view_a {p : Addr} {pt : List Nat} : view s (.a p n pt) = match nodeAt s (.a p n pt) with | some (m, pt', k, _, xs) => viewT m pt' k xs | none => .oth := rfl
theorem nodeAt_a {p : Addr} {pt : List Nat} : nodeAt s (.a p n pt) = match s.cs[n]? with | some (.tr t) => (match t.at pt with | some (.nd k q xs) => if q = p then some (n, pt, k, q, xs) else none | _ => none) | _ => none := rfl
theorem nodeAt_r : nodeAt s (.r n) = match s.cs[n]? with | some (.tr (.nd k q xs)) => some (n, [], k, q, xs) | _ => none := rfl
theorem cellD_lst : cellD (.lst ds) = some (.list ds) := rfl
theorem cellD_dK {kd : List (Key × PyData)} : cellD (.dK kd) = some (dictD kd) := rfl
theorem cellD_fz : cellD (.fz d) = some d := rfl
theorem cellD_tr {t : Tr} : cellD (.tr t) = t.data? := rfl
theorem pass_lst : Cell.pass (.lst ds) = true := rfl
theorem pass_dK {kd : List (Key × PyData)} : Cell.pass (.dK kd) = true := rfl
theorem pass_pool {j : Nat} : Cell.pass (.pool j) = true := rfl
theorem pass_fz : Cell.pass (.fz d) = true := rfl
theorem pass_tr {t : Tr} : Cell.pass (.tr t) = true := rfl
theorem flat_tr {t : Tr} : Cell.flat (.tr t) = true := rfl
theorem flat_gone : Cell.flat .gone = true := rfl
theorem ren_a {nn : List Nat} {p : Addr} {pt : List Nat} : ren nn (.a p n pt) = .a p (nn.idxOf n) pt := rfl
theorem addA_a {p : Addr} {pt : List Nat} : addA (.a p n pt) y s Q = onSome (listOf s (.a p n pt)) fun ds => onSome (listOf s y) fun es => ds.length + es.length ≤ sizeLine ∧ Q (.d (.list (ds ++ es))) s := rfl
theorem tyC_lst : tyC (.lst ds) = some "list" := rfl
theorem tyC_dK {kd : List (Key × PyData)} : tyC (.dK kd) = some "dict" := rfl
theorem tyC_fz : tyC (.fz d) = tyD d := rfl
theorem tupC_lst : tupC (.lst ds) = some (ds.map .d) := rfl
theorem tupC_fzl : tupC (.fz (.list ds)) = some (ds.map .d) := rfl
theorem tupC_nt : tupC (.nt xs) = some xs := rfl
theorem tupC_fz : tupC (.fz (.tuple ds)) = some (ds.map .d) := rfl
theorem iterOV_r {QO : List PyData → (List Cell → Prop) → AS → Prop} : iterOV s QO (.r n) = onSome s.cs[n]? (iterOC n s QO) := rfl
theorem iterOV_d {QO : List PyData → (List Cell → Prop) → AS → Prop} : iterOV s QO (.d (.list ds)) = QO ds (fun _ => True) s := rfl
theorem iterOV_a {p : Addr} {pt : List Nat} {QO : List PyData → (List Cell → Prop) → AS → Prop} : iterOV s QO (.a p n pt) = onSome (leafL (nodeAt s (.a p n pt))) fun ds => QO ds (fun cs => leafL (nodeAt ⟨[], cs⟩ (.a p n pt)) = some ds) s := rfl
theorem iterOC_lst {QO : List PyData → (List Cell → Prop) → AS → Prop} : iterOC n s QO (.lst ds) = QO ds (fun cs => cs[n]? = some (.lst ds)) s := rfl
theorem iterOC_fz {QO : List PyData → (List Cell → Prop) → AS → Prop} : iterOC n s QO (.fz (.list ds)) = QO ds (fun _ => True) s := rfl
theorem retC_fz : retC m n P s (.fz d) = P (.f d) (s.cs.take m) := rfl
theorem retC_lst : retC m n P s (.lst ds) = P (.n (.lst ds)) (s.cs.take m) := rfl
theorem retC_dK {kd : List (Key × PyData)} : retC m n P s (.dK kd) = P (.n (.dK kd)) (s.cs.take m) := rfl
theorem retC_pool {j : Nat} : retC m n P s (.pool j) = P (.n (.pool j)) (s.cs.take m) := rfl
theorem one_1 {k1 : AVal → Prop} : one k1 [x] = k1 x := rfl
theorem two_2 {k2 : AVal → AVal → Prop} : two k2 [x, y] = k2 x y := rfl
theorem ren_r {nn : List Nat} : ren nn (.r n) = .r (nn.idxOf n) := rfl
theorem ren_d {nn : List Nat} : ren nn (.d d) = .d d := rfl
theorem ren_s {nn : List Nat} : ren nn (.s K ns) = .s K ns := rfl
theorem frzC_lst : frzC (.lst ds) = some (.list ds) := rfl
theorem frzC_dK {kd : List (Key × PyData)} : frzC (.dK kd) = some (dictD kd) := rfl
theorem frzC_fz : frzC (.fz d) = some d := rfl
theorem dataOf_d : dataOf s (.d d) = some d := rfl
theorem dataOf_r : dataOf s (.r n) = (s.cs[n]?).bind cellD := rfl
theorem flat_lst : Cell.flat (.lst ds) = true := rfl
theorem flat_dK {kd : List (Key × PyData)} : Cell.flat (.dK kd) = true := rfl
theorem flat_pool {j : Nat} : Cell.flat (.pool j) = true := rfl
theorem flat_fz : Cell.flat (.fz d) = true := rfl
theorem key?_int : (AVal.d (.int i)).key? = some (.inl i) := rfl
theorem key?_str : (AVal.d (.str z)).key? = some (.inr z) := rfl
theorem tyN_list : tyD (.list ds) = some "list" := rfl
theorem tyN_int : tyD (.int i) = some "int" := rfl
theorem tyN_bool : tyD (.bool b) = some "bool" := rfl
theorem tyN_str : tyD (.str z) = some "str" := rfl
theorem tyN_tuple : tyD (.tuple ds) = some "tuple" := rfl
theorem tyN_dictD {kd : List (Key × PyData)} : tyD (dictD kd) = some "dict" := by unfold tyD; rw [if_pos (noEx_dictD _)]; rfl
theorem tyN_none : tyD .none = some "NoneType" := rfl
theorem flatD_int : flatD (.int i) = true := rfl
theorem flatD_str : flatD (.str z) = true := rfl
theorem flatD_strs (zs : List Str) : (zs.map PyData.str).all flatD = true := by rw [List.all_map, List.all_eq_true]; intro _ _; rfl
theorem flatD_ints (is : List Int) : (is.map PyData.int).all flatD = true := by rw [List.all_map, List.all_eq_true]; intro _ _; rfl
theorem flatD_nats (is : List Nat) : (is.map fun k : Nat => PyData.int (k : Int)).all flatD = true := by rw [List.all_map, List.all_eq_true]; intro _ _; rfl
theorem inD_str (z : Str) (zs : List Str) : inD (.str z) (zs.map .str) = decide (z ∈ zs) := by
  induction zs with
  | nil => rfl
  | cons y ys ih =>
    unfold inD at ih ⊢
    rw [List.map_cons, List.any_cons, ih]
    show ((y == z) || _) = _
    by_cases h : y = z
    · subst h; simp
    · have h' : z ≠ y := fun e => h e.symm
      simp [h, h']
theorem inD_int (z : Int) (zs : List Int) : inD (.int z) (zs.map .int) = decide (z ∈ zs) := by
  induction zs with
  | nil => rfl
  | cons y ys ih =>
    unfold inD at ih ⊢
    rw [List.map_cons, List.any_cons, ih]
    show ((y == z) || _) = _
    by_cases h : y = z
    · subst h; simp
    · have h' : z ≠ y := fun e => h e.symm
      simp [h, h']
theorem inD_nat (z : Nat) (zs : List Nat) : inD (.int (z : Int)) (zs.map fun k : Nat => .int (k : Int)) = decide (z ∈ zs) := by
  have := inD_int (z : Int) (zs.map fun k : Nat => (k : Int))
  rw [List.map_map] at this
  refine this.trans (decide_eq_decide.mpr ?_)
  rw [List.mem_map]
  exact ⟨fun ⟨j, hj, e⟩ => by have : j = z := by omega
                              subst this; exact hj, fun hk => ⟨z, hk, rfl⟩⟩
end
end Kr
/-! layer A13 -/
namespace Kr
open PySem L2
/-! ## a dict that is walked: it is locked meanwhile -/
def sw (G : Hp) (d : Addr) (o : HO) : Hp := fun b => if b = d then (G d).map fun _ => o else G b
section
variable {F G H : Hp} {d b : Addr} {o o1 : HO} {es : List (Key × V)}
theorem sw_ne (h : b ≠ d) : sw G d o b = G b := if_neg h
theorem sw_at (h : G d ≠ none) : sw G d o d = some o := by
  obtain ⟨u, hu⟩ := some_of_ne h
  unfold sw
  rw [if_pos rfl, hu]; rfl
theorem sw_none : sw G d o b = none ↔ G b = none := by
  by_cases h : b = d
  · subst h
    unfold sw
    rw [if_pos rfl]
    cases G b <;> simp
  · rw [sw_ne h]
theorem sw_upd (h : G d ≠ none) : sw G d o = upd G d o := by
  funext b
  by_cases hb : b = d
  · subst hb; rw [sw_at h, upd_same]
  · rw [sw_ne hb, upd_ne hb]
def IsDk (es : List (Key × V)) (o : HO) : Prop := o = .dK es ∨ ∃ od, o = .frz od (.dK es)
theorem IsDk.rd (h : IsDk es o) (e : G d = some o) : Rd G d (.dK es) := by
  rcases h with rfl | ⟨od, rfl⟩
  · exact .inl e
  · exact .inr ⟨od, e⟩
theorem Rd.ne (h : Rd F d (.dK es)) : F d ≠ none := by
  rcases h with h | ⟨_, h⟩ <;> exact ne_none h
theorem Rd.inj {es2 : List (Key × V)} (h : Rd F d (.dK es)) (k : Rd F d (.dK es2)) : es2 = es := by
  rcases h with h | ⟨_, h⟩ <;> rcases k with k | ⟨_, k⟩ <;> rw [h] at k <;> cases k <;> rfl
theorem ne_dk {u : HO} (hd : Rd F d (.dK es)) (h : F b = some u) (hu : ∀ e, ¬ IsDk e u) : b ≠ d := fun z => by
  subst z
  rcases hd with hd | ⟨od, hd⟩ <;> rw [hd] at h <;> cases h
  · exact hu es (.inl rfl)
  · exact hu es (.inr ⟨_, rfl⟩)
theorem no_lst {vs : List V} : ∀ e, ¬ IsDk e (.lst vs) := fun e h => by rcases h with h | ⟨_, h⟩ <;> cases h
theorem no_ext {φ : Heap → Prop} : ∀ e, ¬ IsDk e (.ext φ) := fun e h => by rcases h with h | ⟨_, h⟩ <;> cases h
theorem no_xd {fs : List (Str × V)} : ∀ e, ¬ IsDk e (.xd fs) := fun e h => by rcases h with h | ⟨_, h⟩ <;> cases h
theorem no_tup {vs : List V} : ∀ e, ¬ IsDk e (.tup vs) := fun e h => by rcases h with h | ⟨_, h⟩ <;> cases h
theorem Rd.sw {a : Addr} {es2 : List (Key × V)} (hd : Rd F d (.dK es)) (ho : IsDk es o) (h : Rd F a (.dK es2)) : Rd (Kr.sw F d o) a (.dK es2) := by
  by_cases e : a = d
  · subst e
    have := Rd.inj hd h
    subst this
    exact ho.rd (sw_at (Rd.ne hd))
  · unfold Rd at h ⊢
    rw [sw_ne e]; exact h
end
mutual
theorem Da.sw {F : Hp} {d : Addr} {o : HO} {es : List (Key × V)} (hd : Rd F d (.dK es)) (ho : IsDk es o) : ∀ {x : PyData} {v : V}, Da F x v → Da (Kr.sw F d o) x v
  | .none, _, h => h
  | .bool _, _, h => h
  | .int _, _, h => h
  | .str _, _, h => h
  | .list ds, v, h => by
    obtain ⟨a, xs, e, h1, h2⟩ := (show ∃ a xs, v = .ref a ∧ F a = some (.lst xs) ∧ DaAll F ds xs from h)
    exact (show ∃ a xs, v = .ref a ∧ Kr.sw F d o a = some (.lst xs) ∧ DaAll (Kr.sw F d o) ds xs from ⟨a, xs, e, by rw [sw_ne (ne_dk hd h1 no_lst)]; exact h1, DaAll.sw hd ho h2⟩)
  | .tuple ds, v, h => by
    obtain ⟨a, xs, e, h1, h2⟩ := (show ∃ a xs, v = .ref a ∧ F a = some (.tup xs) ∧ DaAll F ds xs from h)
    exact (show ∃ a xs, v = .ref a ∧ Kr.sw F d o a = some (.tup xs) ∧ DaAll (Kr.sw F d o) ds xs from ⟨a, xs, e, by rw [sw_ne (ne_dk hd h1 no_tup)]; exact h1, DaAll.sw hd ho h2⟩)
  | .dict kvs, v, h => by
    rcases (show (∃ a es, v = .ref a ∧ Rd F a (.dK es) ∧ DaKV F kvs es) ∨ ExV F kvs v from h) with ⟨a, xs, e, h1, h2⟩ | ⟨a, C, dx, y, e1, e2, e3, e4⟩
    · exact (show (∃ a es, v = .ref a ∧ Rd (Kr.sw F d o) a (.dK es) ∧ DaKV (Kr.sw F d o) kvs es) ∨ ExV (Kr.sw F d o) kvs v from .inl ⟨a, xs, e, Rd.sw hd ho h1, DaKV.sw hd ho h2⟩)
    · refine (show (∃ a es, v = .ref a ∧ Rd (Kr.sw F d o) a (.dK es) ∧ DaKV (Kr.sw F d o) kvs es) ∨ ExV (Kr.sw F d o) kvs v from .inr ⟨a, C, dx, y, e1, e2, by rw [sw_ne (ne_dk hd e3 no_ext)]; exact e3, ?_⟩)
      rcases e4 with e4 | ⟨dd, i, w, g1, g2, g3, g4⟩
      · exact .inl e4
      · exact .inr ⟨dd, i, w, g1, g2, by rw [sw_ne (ne_dk hd g3 no_xd)]; exact g3, g4⟩
theorem DaAll.sw {F : Hp} {d : Addr} {o : HO} {es : List (Key × V)} (hd : Rd F d (.dK es)) (ho : IsDk es o) : ∀ {ds : List PyData} {vs : List V}, DaAll F ds vs → DaAll (Kr.sw F d o) ds vs
  | [], _, h => h
  | x :: ds, vs, h => by
    obtain ⟨v, r, e, h1, h2⟩ := (show ∃ v r, vs = v :: r ∧ Da F x v ∧ DaAll F ds r from h)
    exact (show ∃ v r, vs = v :: r ∧ Da (Kr.sw F d o) x v ∧ DaAll (Kr.sw F d o) ds r from ⟨v, r, e, Da.sw hd ho h1, DaAll.sw hd ho h2⟩)
theorem DaKV.sw {F : Hp} {d : Addr} {o : HO} {es : List (Key × V)} (hd : Rd F d (.dK es)) (ho : IsDk es o) : ∀ {kvs : List (PyData × PyData)} {xs : List (Key × V)}, DaKV F kvs xs → DaKV (Kr.sw F d o) kvs xs
  | [], _, h => h
  | (k, x) :: kvs, xs, h => by
    obtain ⟨k', v, r, e, h0, h1, h2⟩ := (show ∃ k' v r, xs = (k', v) :: r ∧ KeyD k k' ∧ Da F x v ∧ DaKV F kvs r from h)
    exact (show ∃ k' v r, xs = (k', v) :: r ∧ KeyD k k' ∧ Da (Kr.sw F d o) x v ∧ DaKV (Kr.sw F d o) kvs r from ⟨k', v, r, e, h0, Da.sw hd ho h1, DaKV.sw hd ho h2⟩)
end
section
variable {B : Bs} {ad ad2 : List Addr} {F H F2 H2 : Hp} {d p : Addr} {o o1 : HO} {es : List (Key × V)} {s s2 : AS} {σ σ2 : St} {x : AVal} {v : V} {c : Cell}
theorem sql_sw {K : PySem.W.Frag} {a : Addr} {vs : List V} (hd : Rd F d (.dK es)) (h : SqL K F a vs) : SqL K (sw F d o) a vs := by
  unfold SqL at h ⊢
  rcases h with h | h
  · left
    have hn : a ≠ d := h.elim (fun z => ne_dk hd z no_lst) fun ⟨_, z⟩ => ne_dk hd z fun e h => by rcases h with h | ⟨_, h⟩ <;> cases h
    unfold Rd at h ⊢
    rw [sw_ne hn]; exact h
  · right; exact h
theorem VOk.sw (hd : Rd F d (.dK es)) (ho : IsDk es o) (h : VOk ad F x v) : VOk ad (Kr.sw F d o) x v := by
  cases x with
  | d x => exact Da.sw hd ho h
  | r n => exact h
  | s K ns => obtain ⟨a, h1, h2⟩ := h; exact ⟨a, h1, sql_sw hd h2⟩
  | a p n pt => exact h
mutual
theorem TrOk.sw (hd : Rd F d (.dK es)) (ho : IsDk es o) : ∀ {t : Tr} {v : V}, TrOk F H t v → (∀ q ∈ t.addrs, q ≠ d) → TrOk (Kr.sw F d o) (Kr.sw H d o) t v
  | .d x, v, h, _ => Da.sw hd ho h
  | .nd k a xs, v, h, e => by
    obtain ⟨h0, vs, h1, h2, h3⟩ := h.node
    subst h0
    have e' : ∀ q ∈ a :: (k.more ++ Tr.addrsL xs), q ≠ d := e
    refine TrOk.of (vs := vs) (by rw [sw_ne (e' a (List.mem_cons_self ..))]; exact h1) (Kd.side_mono (F := F) h2 fun q hq o' e => ?_) (TrAll.sw hd ho h3 fun q hq => e' q (List.mem_cons_of_mem _ (List.mem_append_right _ hq)))
    rw [sw_ne (e' q (List.mem_cons_of_mem _ (List.mem_append_left _ hq)))]; exact e
theorem TrAll.sw (hd : Rd F d (.dK es)) (ho : IsDk es o) : ∀ {ts : List Tr} {vs : List V}, TrAll F H ts vs → (∀ q ∈ Tr.addrsL ts, q ≠ d) → TrAll (Kr.sw F d o) (Kr.sw H d o) ts vs
  | [], _, h, _ => h
  | t :: ts, vs, h, e => by
    obtain ⟨v, r, h0, h1, h2⟩ := (show ∃ v r, vs = v :: r ∧ TrOk F H t v ∧ TrAll F H ts r from h)
    have e' : ∀ q ∈ t.addrs ++ Tr.addrsL ts, q ≠ d := e
    exact (show ∃ v r, vs = v :: r ∧ TrOk (Kr.sw F d o) (Kr.sw H d o) t v ∧ TrAll (Kr.sw F d o) (Kr.sw H d o) ts r from ⟨v, r, h0, TrOk.sw hd ho h1 fun q hq => e' q (List.mem_append_left _ hq), TrAll.sw hd ho h2 fun q hq => e' q (List.mem_append_right _ hq)⟩)
end
theorem KvOk.sw {kvs : List (Key × PyData)} {xs : List (Key × V)} (hd : Rd F d (.dK es)) (ho : IsDk es o) (h : KvOk F kvs xs) : KvOk (Kr.sw F d o) kvs xs := Paired.imp h fun _ _ h => ⟨h.1, Da.sw hd ho h.2⟩
theorem COk.sw (hd : Rd F d (.dK es)) (ho : IsDk es o) (hp : c.live = true → p ≠ d) (hq : ∀ q ∈ c.ads, q ≠ d) (h : COk ad F H p c) : COk ad (Kr.sw F d o) (Kr.sw H d o) p c := by
  cases c with
  | lst ds => obtain ⟨vs, h1, h2⟩ := h; exact ⟨vs, by rw [sw_ne (hp rfl)]; exact h1, DaAll.sw hd ho h2⟩
  | dK kvs => obtain ⟨vs, h1, h2⟩ := h; exact ⟨vs, by rw [sw_ne (hp rfl)]; exact h1, KvOk.sw hd ho h2⟩
  | pool n => obtain ⟨c, m, t, h1, h2⟩ := h; exact ⟨c, m, t, by rw [sw_ne (hp rfl)]; exact h1, h2⟩
  | fz x => exact Da.sw hd ho h
  | gone => trivial
  | nl xs => obtain ⟨vs, h1, h2⟩ := h; exact ⟨vs, by rw [sw_ne (hp rfl)]; exact h1, Paired.imp h2 fun _ _ h => VOk.sw hd ho h⟩
  | nt xs => obtain ⟨vs, h1, h2⟩ := h; exact ⟨vs, by rw [sw_ne (hp rfl)]; exact h1, Paired.imp h2 fun _ _ h => VOk.sw hd ho h⟩
  | nd kvs => obtain ⟨vs, h1, h2⟩ := h; exact ⟨vs, by rw [sw_ne (hp rfl)]; exact h1, Paired.imp h2 fun _ _ h => ⟨h.1, VOk.sw hd ho h.2⟩⟩
  | dl od e2 kvs => obtain ⟨h1, h2⟩ := h; exact ⟨by rw [sw_ne (hp rfl)]; exact h1, KvOk.sw hd ho h2⟩
  | tr t => exact ⟨h.1, h.2.sw hd ho hq⟩
theorem same_sw (h : Same F H) (hd : F d ≠ none) : Same (sw F d o) (sw H d o) := fun b u e => by
  by_cases hb : b = d
  · subst hb
    rw [sw_at hd] at e
    rw [sw_at (Same.ne h hd)]; exact e
  · rw [sw_ne hb] at e ⊢; exact h _ _ e
theorem Rl.cels (r : Rl B ad F H s σ) (hd : Rd F d (.dK es)) (ho : IsDk es o) : ∀ (i : Nat) (p : Addr) (c : Cell), ad[i]? = some p → s.cs[i]? = some c → sw H d o p ≠ none ∧ (c.live = true → sw F d o p = none) ∧ COk ad (sw F d o) (sw H d o) p c := fun i p c h1 h2 => by
  obtain ⟨n, l, ok⟩ := r.cel i p c h1 h2
  exact ⟨fun z => n (sw_none.mp z), fun z => sw_none.mpr (l z), ok.sw hd ho (fun z e => by
    subst e
    exact (Rd.ne hd) (l z)) fun q hq e => Rd.ne hd (e ▸ (r.inn.fr q (mem_ads h2 hq)).1)⟩
theorem Inn.sw {B2 : Bs} {cs : List Cell} (r : Inn B ad F H cs) (hS : B2.S = B.S) (hT : B2.T = B.T) (h0 : ∀ b, B2.H0 b = none ↔ B.H0 b = none) : Inn B2 ad (Kr.sw F d o) (Kr.sw H d o) cs :=
  ⟨r.nd, r.off, fun q hq => ⟨sw_none.mpr (r.fr q hq).1, fun z => (r.fr q hq).2 (sw_none.mp z)⟩, fun q hq => by rw [hS, hT, h0]; exact r.own q hq, fun b hb z => r.old b (hT ▸ hb) ((h0 b).mp z)⟩
def Bs.lk (B : Bs) (F : Hp) (d : Addr) (o : HO) : Bs := ⟨B.S, Kr.sw F d o, Kr.sw B.H0 d o, B.T⟩
theorem Rl.lock (r : Rl B ad F H s σ) (hd : Rd F d (.dK es)) (ho : IsDk es o) : Rl (B.lk F d o) ad (sw F d o) (sw H d o) s σ := by
  refine ⟨Same.refl _, same_sw r.fh (Rd.ne hd), fun b u hb ht e => ?_, fun b hb z => r.al b hb (sw_none.mp z), fun b e _ => e, ?_, r.nd, r.len, r.cels hd ho, r.sln, fun k x hx => ?_, r.inn.sw rfl rfl fun b => sw_none⟩
  · by_cases z : b = d
    · subst z
      have e' : sw B.H0 b o b = some u := e
      have n0 : B.H0 b ≠ none := fun z => by rw [sw_none.mpr z] at e'; cases e'
      obtain ⟨u0, hu0⟩ := some_of_ne n0
      rw [sw_at n0] at e'
      rw [sw_at (ne_none (r.hh b u0 hb ht hu0))]; exact e'
    · have e' : sw B.H0 d o b = some u := e
      rw [sw_ne z] at e' ⊢
      exact r.hh b u hb ht e'
  · obtain ⟨ad', e, h⟩ := r.pre
    exact ⟨ad', e, fun b hb => sw_none.mpr (h b hb)⟩
  · obtain ⟨v, h1, h2⟩ := r.slt k x hx
    exact ⟨v, h1, h2.sw hd ho⟩
theorem Rl.unlock (r0 : Rl B ad F H s σ) (hF : F d = some o1) (h1 : IsDk es o1) (ho : IsDk es o) (r : Rl (B.lk F d o) ad2 F2 H2 s2 σ2) : F2 d = some o ∧ H2 d = some o ∧ Same F (sw F2 d o1) ∧ Rl B ad2 (sw F2 d o1) (sw H2 d o1) s2 σ2 := by
  have e1 : F2 d = some o := r.ff _ _ (sw_at (ne_none hF))
  have e2 : H2 d = some o := r.fh _ _ e1
  have hd : Rd F2 d (.dK es) := ho.rd e1
  have sF : Same F (sw F2 d o1) := fun b u e => by
    by_cases hb : b = d
    · subst hb; rw [hF] at e; cases e; exact sw_at (ne_none e1)
    · rw [sw_ne hb]; exact r.ff _ _ (by show sw F d o b = some u; rw [sw_ne hb]; exact e)
  refine ⟨e1, e2, sF, r0.ff.trans sF, same_sw r.fh (Rd.ne hd), fun b u hb ht e => ?_, fun b hb z => r.al b hb (sw_none.mp z), fun b e n => ?_, ?_, r.nd, r.len, r.cels hd h1, r.sln, fun k x hx => ?_, r.inn.sw rfl rfl fun b => sw_none.symm⟩
  · by_cases z : b = d
    · subst z
      have := r0.hh b u hb ht e
      rw [r0.fh _ _ hF] at this
      cases this
      exact sw_at (ne_none e2)
    · rw [sw_ne z]
      exact r.hh b u hb ht (by show sw B.H0 d o b = some u; rw [sw_ne z]; exact e)
  · have f0 := r0.new b e n
    refine sw_none.mpr (r.new b ?_ ?_)
    · exact sw_none.mpr f0
    · exact fun z => n (sw_none.mp z)
  · obtain ⟨ad', e, h⟩ := r.pre
    exact ⟨ad', e, fun b hb => sw_none.mp (h b hb)⟩
  · obtain ⟨v, h2, h3⟩ := r.slt k x hx
    exact ⟨v, h2, h3.sw hd h1⟩
end
end Kr
/-! layer A14 -/
namespace Kr
open PySem L2
/-! ## for x in a dict -/
theorem WS.ends {X : Cx} {st : Stmt} {D1 D2 : Ends} {σ : St} {H : Hp} (h : WS X st D1 σ H) (n : ∀ σ H, D1.nx σ H → D2.nx σ H) (r : ∀ v H, D1.rt v H → D2.rt v H) (b : ∀ σ H, D1.bk σ H → D2.bk σ H) (c : ∀ σ H, D1.ct σ H → D2.ct σ H) : WS X st D2 σ H := fun pins s I => thn (h pins s I) fun f s' q => by
  cases f with
  | next => obtain ⟨σ', H', I', q⟩ := q; exact ⟨σ', H', I', n _ _ q⟩
  | brk => obtain ⟨σ', H', I', q⟩ := q; exact ⟨σ', H', I', b _ _ q⟩
  | cont => obtain ⟨σ', H', I', q⟩ := q; exact ⟨σ', H', I', c _ _ q⟩
  | ret u => obtain ⟨v, σ', H', I', rv, q⟩ := q; exact ⟨v, σ', H', I', rv, r _ _ q⟩
def okG (ok : AS → Prop) (g : TGA) : TGA := fun x s Q => ok s ∧ g x s Q
def keysOf : PyData → Option (List PyData)
  | .dict kvs => if noExK kvs = true then some (kvs.map (·.1)) else none
  | _ => none
theorem keysOf_d {kvs : List (PyData × PyData)} {ds : List PyData} (e : keysOf (.dict kvs) = some ds) : noExK kvs = true ∧ ds = kvs.map (·.1) := by
  have e' : (if noExK kvs = true then some (kvs.map (·.1)) else none) = some ds := e
  split at e'
  · rename_i n; cases e'; exact ⟨n, rfl⟩
  · cases e'
theorem daKV_len {F : Hp} : ∀ {kvs : List (PyData × PyData)} {es : List (Key × V)}, DaKV F kvs es → es.length = kvs.length
  | [], es, h => by obtain rfl := (show es = [] from h); rfl
  | (k, d) :: kvs, es, h => by
    obtain ⟨k', v, r, rfl, _, _, h2⟩ := (show ∃ k' v r, es = (k', v) :: r ∧ KeyD k k' ∧ Da F d v ∧ DaKV F kvs r from h)
    simp [daKV_len h2]
theorem da_key {F : Hp} {k : PyData} {k' : Key} (h : KeyD k k') : Da F k (kV k') := by
  cases k <;> cases k' <;> simp only [KeyD] at h
  · subst h; rfl
  · subst h; rfl
theorem daKV_key {F : Hp} : ∀ {kvs : List (PyData × PyData)} {es : List (Key × V)} {i : Nat} {d : PyData} {k : Key} {v : V}, DaKV F kvs es → (kvs.map (·.1))[i]? = some d → es[i]? = some (k, v) → KeyD d k
  | [], _, _, _, _, _, _, h, _ => by simp at h
  | (k, d) :: kvs, es, i, d', k2, v2, h, h1, h2 => by
    obtain ⟨k', v, r, rfl, h3, _, h4⟩ := (show ∃ k' v r, es = (k', v) :: r ∧ KeyD k k' ∧ Da F d v ∧ DaKV F kvs r from h)
    cases i with
    | zero =>
      simp only [List.map_cons, List.getElem?_cons_zero, Option.some.injEq] at h1 h2
      cases h2; subst h1; exact h3
    | succ i => exact daKV_key h4 h1 h2
section
variable {X : Cx} {B : Bs} {tg iter : Expr} {body : List Stmt} {t : TSA} {g : TGA} {ks : List Nat} {pos : Pos}
theorem for_core {J : It} {ds : List PyData} {ok : AS → Prop} (hg : GT X tg ks g) (hb : ∀ F0 H0, SS X ⟨B.S, F0, H0, B.T⟩ body t) {ad2 : List Addr} {F2 H2 : Hp} {s2 : AS} {σ : St} {D : DA} (r2 : Rl B ad2 F2 H2 s2 σ)
    (w : ∀ ad3 F3 H3 s3 σ3, Same F2 F3 → Rl B ad3 F3 H3 s3 σ3 → ok s3 → (∀ (i : Nat) d, ds[i]? = some d → J.go i H3 ∧ ∀ x H4, J.yld i H3 x H4 → H4 = H3 ∧ Da F3 d x) ∧ J.stop ds.length H3)
    (q : forW B.S.length (okG ok g) t D ds s2) (hD : ∀ s, D.nx s → ok s) :
    ∃ W : Nat → Nat → St → Hp → Prop, (∃ m, W 0 m σ H2) ∧ ∀ i m σ H, W i m σ H → (J.stop i H ∧ (liftD B D).nx σ H) ∨ (J.go i H ∧ ∃ N : St → Hp → Prop, (∀ σ' H', N σ' H' → ∃ m', m' < m ∧ W (i + 1) m' σ' H') ∧ ∀ x H', J.yld i H x H' → WG X tg x σ H' fun σ2 H2 => WSs X body { liftD B D with nx := N, ct := N, bk := (liftD B D).nx } σ2 H2) := by
  refine ⟨fun i m σ' H' => m = ds.length - i ∧ i ≤ ds.length ∧ ∃ ad' F' s', Same F2 F' ∧ Rl B ad' F' H' s' σ' ∧ forW B.S.length (okG ok g) t D (ds.drop i) s', ⟨ds.length, by simp, Nat.zero_le _, ad2, F2, s2, Same.refl _, r2, q⟩, ?_⟩
  rintro i m σ' H' ⟨rfl, hi', ad', F', s', s1, r', q'⟩
  by_cases hlt : i < ds.length
  · have e : ds[i]? = some ds[i] := List.getElem?_eq_getElem hlt
    rw [drop_get e] at q'
    obtain ⟨w1, w2⟩ := w ad' F' H' s' σ' s1 r' q'.1
    obtain ⟨go, yl⟩ := w1 i _ e
    refine .inr ⟨go, fun σ3 H3 => ∃ ad3 F3 s3, Same F2 F3 ∧ Rl B ad3 F3 H3 s3 σ3 ∧ forW B.S.length (okG ok g) t D (ds.drop (i + 1)) s3, fun σ3 H3 p' => ⟨ds.length - (i + 1), by omega, rfl, hlt, p'⟩, fun x H4 y => ?_⟩
    obtain ⟨rfl, hd⟩ := yl x H4 y
    refine (hg.run B ad' F' H4 s' σ' (.d ds[i]) x _ r' hd q'.2).mono2 ?_
    rintro σ5 H5 ⟨rfl, k5, s5, r5, q5⟩
    intro pins sh I
    refine thn ((hb F' B.H0).run _ s5 q5 ad' F' H5 σ5 r5.floor pins sh I) fun f s6 z => ?_
    cases f with
    | next =>
      obtain ⟨σ2, H2, I2, ad2, F2', s2, r2', s3, wk, w3⟩ := z
      obtain ⟨ad9, r9⟩ := (r5.unfloor r2').weakX wk
      exact ⟨σ2, H2, I2, ad9, F2', s3, s1.trans r2'.ff, r9, w3⟩
    | brk =>
      obtain ⟨σ2, H2, I2, ad2, F2', s2, r2', w3⟩ := z
      exact ⟨σ2, H2, I2, ad2, F2', s2, r5.unfloor r2', w3⟩
    | cont =>
      obtain ⟨σ2, H2, I2, ad2, F2', s2, r2', s3, wk, w3⟩ := z
      obtain ⟨ad9, r9⟩ := (r5.unfloor r2').weakX wk
      exact ⟨σ2, H2, I2, ad9, F2', s3, s1.trans r2'.ff, r9, w3⟩
    | ret u =>
      obtain ⟨v, σ2, H2, I2, rv, ad2, F2', x2, s2, σ3, r2', hv, w3⟩ := z
      exact ⟨v, σ2, H2, I2, rv, ad2, F2', x2, s2, σ3, r5.unfloor r2', hv, w3⟩
  · have e : i = ds.length := by omega
    subst e
    rw [List.drop_length] at q'
    exact .inl ⟨(w ad' F' H' s' σ' s1 r' (hD _ q')).2, ad', F', s', r', q'⟩
def DA.unl (D : DA) (n : Nat) (c0 c : Cell) : DA := ⟨fun s => s.cs[n]? = some c0 ∧ D.nx ⟨s.sl, s.cs.set n c⟩, fun x s => s.cs[n]? = some c0 ∧ D.rt x ⟨s.sl, s.cs.set n c⟩, fun s => s.cs[n]? = some c0 ∧ D.bk ⟨s.sl, s.cs.set n c⟩, fun s => s.cs[n]? = some c0 ∧ D.ct ⟨s.sl, s.cs.set n c⟩⟩
def forDC (m n : Nat) (g : TGA) (t : TSA) (D : DA) (s : AS) : Cell → Prop
  | .dK kvs => n < m ∧ ∀ od es, forW m (okG (fun s => s.cs[n]? = some (.dl od es kvs)) g) t (D.unl n (.dl od es kvs) (.dK kvs)) (kvs.map fun p => keyD p.1) ⟨s.sl, s.cs.set n (.dl od es kvs)⟩
  | .fz y => onSome (keysOf y) fun ds => forW m (okG (fun _ => True) g) t D ds s
  | _ => False
def forDV (m : Nat) (g : TGA) (t : TSA) (D : DA) (s : AS) : AVal → Prop
  | .d y => onSome (keysOf y) fun ds => forW m (okG (fun _ => True) g) t D ds s
  | .r n => onSome s.cs[n]? (forDC m n g t D s)
  | .s _ _ => False
  | .a _ _ _ => False
def forDA (m k : Nat) (g : TGA) (t : TSA) : TSA := fun D s => onSome (s.sl[k]?.bind id) (forDV m g t D s)
theorem slot_some {s : AS} {k : Nat} {y : AVal} (e : s.sl[k]?.bind id = some y) : s.sl[k]? = some (some y) := by
  cases h : s.sl[k]? with
  | none => rw [h] at e; cases e
  | some o => rw [h] at e; cases o with
    | none => cases e
    | some z => cases e; rfl
theorem ends_unlock {D : DA} {ad : List Addr} {F H : Hp} {s : AS} {σ : St} {a : Addr} {es : List (Key × V)} {od : Obj} {st : Stmt} {H1 : Hp} (r : Rl B ad F H s σ) (hr : F a = some (.dK es)) (h : WS X st (liftD (B.lk F a (.frz od (.dK es))) D) σ H1) :
    WS X st ⟨fun σ' H' => H' a = some (.frz od (.dK es)) ∧ (liftD B D).nx σ' (upd H' a (.dK es)), fun v H' => H' a = some (.frz od (.dK es)) ∧ (liftD B D).rt v (upd H' a (.dK es)), fun σ' H' => H' a = some (.frz od (.dK es)) ∧ (liftD B D).bk σ' (upd H' a (.dK es)), fun σ' H' => H' a = some (.frz od (.dK es)) ∧ (liftD B D).ct σ' (upd H' a (.dK es))⟩ σ H1 := by
  have key : ∀ {ad2 F2 H2 s2 σ2}, Rl (B.lk F a (.frz od (.dK es))) ad2 F2 H2 s2 σ2 → H2 a = some (.frz od (.dK es)) ∧ Rl B ad2 (sw F2 a (.dK es)) (upd H2 a (.dK es)) s2 σ2 ∧ ∀ x v, VOk ad2 F2 x v → VOk ad2 (sw F2 a (.dK es)) x v := fun {ad2 F2 H2 s2 σ2} r2 => by
    obtain ⟨e1, e2, _, e3⟩ := r.unlock hr (.inl rfl) (.inr ⟨od, rfl⟩) r2
    rw [sw_upd (ne_none e2)] at e3
    exact ⟨e2, e3, fun x v hv => VOk.sw (IsDk.rd (.inr ⟨od, rfl⟩) e1) (.inl rfl) hv⟩
  refine h.ends ?_ ?_ ?_ ?_
  · rintro σ' H' ⟨ad2, F2, s2, r2, q⟩
    obtain ⟨k1, k2, _⟩ := key r2
    exact ⟨k1, ad2, _, s2, k2, q⟩
  · rintro v H' ⟨ad2, F2, x, s2, σ2, r2, hv, q⟩
    obtain ⟨k1, k2, k3⟩ := key r2
    exact ⟨k1, ad2, _, x, s2, σ2, k2, k3 _ _ hv, q⟩
  · rintro σ' H' ⟨ad2, F2, s2, r2, q⟩
    obtain ⟨k1, k2, _⟩ := key r2
    exact ⟨k1, ad2, _, s2, k2, q⟩
  · rintro σ' H' ⟨ad2, F2, s2, r2, q⟩
    obtain ⟨k1, k2, _⟩ := key r2
    exact ⟨k1, ad2, _, s2, k2, q⟩
theorem walk_keys {F3 H3 : Hp} {a : Addr} {od : Obj} {es : List (Key × V)} {ds : List PyData} (h : H3 a = some (.frz od (.dK es))) (hl : es.length = ds.length) (hk : ∀ (i : Nat) d k v, ds[i]? = some d → es[i]? = some (k, v) → KeyD d k) :
    (∀ (i : Nat) d, ds[i]? = some d → (Itk a od es).go i H3 ∧ ∀ x H4, (Itk a od es).yld i H3 x H4 → H4 = H3 ∧ Da F3 d x) ∧ (Itk a od es).stop ds.length H3 := by
  refine ⟨fun i d e => ⟨⟨h, by rw [hl]; exact (List.getElem?_eq_some_iff.mp e).1⟩, fun x H4 y => ?_⟩, h, by rw [hl]; exact Nat.le_refl _⟩
  obtain ⟨rfl, k, v, e2, rfl⟩ := y
  exact ⟨rfl, da_key (hk i d k v e e2)⟩
end
end Kr
/-! layer A15 -/
namespace Kr
open PySem L2
/-! ## dicts: ==, !=, dict(pairs), clear -/
def dctD : PyData → Option (List (Key × PyData))
  | .dict kvs => unKV kvs
  | _ => none
def dkC : Cell → Option (List (Key × PyData))
  | .dK kvs => some kvs
  | .fz y => dctD y
  | .dl _ _ kvs => some kvs
  | _ => none
def dctOf (s : AS) : AVal → Option (List (Key × PyData))
  | .d y => dctD y
  | .r n => s.cs[n]?.bind dkC
  | .s _ _ => none
  | .a _ _ _ => none
theorem dctD_dictD {kvs : List (Key × PyData)} : dctD (dictD kvs) = some kvs := unKV_keyD kvs
def eqvKV (ks ls : List (Key × PyData)) : Bool := ks.length == ls.length && ks.all fun p => match getA ls p.1 with | some e => PyData.eqv p.2 e | none => false
section
variable {X : Cx} {B : Bs} {ad : List Addr} {F H : Hp} {s : AS} {σ : St} {x y : AVal} {u v : V}
theorem KvOk.get {kvs : List (Key × PyData)} {es : List (Key × V)} {k : Key} (h : KvOk F kvs es) : match getA kvs k with | some x => ∃ v, valV es k = some v ∧ Da F x v | none => valV es k = none := by
  unfold KvOk at h
  induction h with
  | nil => rfl
  | @cons p q ps qs h t ih =>
    by_cases hk : p.1 = k
    · have : getA (p :: ps) k = some p.2 := by simp [getA, List.find?_cons, hk]
      rw [this]
      exact ⟨q.2, valV_pos (h.1.symm.trans hk), h.2⟩
    · have e1 : getA (p :: ps) k = getA ps k := by simp [getA, List.find?_cons, hk]
      have e2 : valV (q :: qs) k = valV qs k := valV_neg (by rw [← h.1]; exact hk)
      rw [e1, e2]
      exact ih
def eqDT (neg : Bool) : AVal → AVal → TTA := fun x y s Q => onSome (dctOf s x) fun ks => onSome (dctOf s y) fun ls => ((∀ p ∈ ks, Lay 60 p.2) ∧ ∀ p ∈ ls, Lay 60 p.2) ∧ Q (eqvKV ks ls != neg) s
/-! ### dict of a list of pairs -/
def pairD : PyData → Option (Key × PyData)
  | .tuple [k, d] => (keyOf k).map fun k => (k, d)
  | _ => none
def pairsD : List PyData → Option (List (Key × PyData))
  | [] => some []
  | p :: r => (pairD p).bind fun q => (pairsD r).map (q :: ·)
def mergeA {α : Type} (kvs more : List (Key × α)) : List (Key × α) := more.foldl (fun acc kv => putA acc kv.1 kv.2) kvs
def dictN (xs : List AVal) : TNA := fun s Q => one (fun x => onSome (listOf s x) fun ds => onSome (pairsD ds) fun kvs => Q (.dK (mergeA [] kvs)) s) xs
/-- d.clear() -/
def clearD (to : TEA) : TEA := fun s Q => to s fun x s1 => onDct s1 x fun n ds => Q (.d .none) ⟨s1.sl, s1.cs.set n (.dK [])⟩
/-! ### a tuple that is walked -/
def tupL (s : AS) : AVal → Option (List PyData)
  | .d (.tuple ds) => some ds
  | _ => none
def iterT (ta : TEA) : AS → (List PyData → AS → Prop) → Prop := fun s Q => ta s fun x s1 => onSome (tupL s1 x) fun ds => Q ds s1
theorem WE.szT {e : Expr} {Q : VK} (h : WE X e σ H Q) : WE X e σ H fun v H' => Q v H' ∧ ∀ l vs, H' l = some (.tup vs) → vs.length ≤ sizeLine := fun pins s I => thn (h pins s I) fun u s' ⟨v, H', I', r, k⟩ => ⟨v, H', I', r, k, fun l vs hl => (I'.hok l _ hl).1⟩
theorem walks_tup {F2 : Hp} {ds : List PyData} {l : Addr} {vs : List V} (h1 : F2 l = some (.tup vs)) (h2 : DaAll F2 ds vs) {K : PySem.W.Frag} : Walks (Itt K l) F2 ds := Walks0.w fun F3 H3 s1 s2 => ⟨fun i d e => by
  obtain ⟨v, hv, hd⟩ := h2.get e
  exact ⟨⟨vs, v, SqT.of (s2 _ _ (s1 _ _ h1)), hv⟩, fun x H4 y => ⟨y.1, (getV h2 e (y.2 vs (SqT.of (s2 _ _ (s1 _ _ h1))))).mono s1⟩⟩, vs, SqT.of (s2 _ _ (s1 _ _ h1)), by rw [h2.length]; exact Nat.le_refl _⟩
theorem ia_tup {tg e : Expr} {ta : TEA} (ha : EA X B e ta) : IA X B tg e (iterT ta) := ⟨fun ad F H s σ Q R r t k => wi_of (pi_tup pe_we) ((WE.szT (ha.run ad F H s σ _ r t)).imp fun u H1 q => by
  obtain ⟨⟨ad1, F1, x, s1, e1, k1, r1, hx, ds, ed, q⟩, hz⟩ := q
  unfold tupL at ed
  split at ed
  · cases ed
    obtain ⟨l, vs, rfl, h1, h2⟩ := hx
    have h1' := r1.fh _ _ h1
    exact ⟨l, rfl, ⟨vs, SqT.of h1'⟩, k _ ad1 F1 H1 s1 _ e1 k1 r1 (walks_tup h1 h2) (by rw [← h2.length]; exact hz l vs h1') q⟩
  · cases ed)⟩
/-! ### how they open -/
variable {m n : Nat} {g : TGA} {t : TSA} {D : DA} {kvs : List (Key × PyData)} {ds : List PyData} {od : Obj} {es : List (Key × V)}
theorem tupL_tup : tupL s (.d (.tuple ds)) = some ds := rfl
theorem dctOf_d {d : PyData} : dctOf s (.d d) = dctD d := rfl
theorem dctOf_r : dctOf s (.r n) = s.cs[n]?.bind dkC := rfl
theorem dkC_dK : dkC (.dK kvs) = some kvs := rfl
theorem dkC_dl : dkC (.dl od es kvs) = some kvs := rfl
theorem dkC_fz {d : PyData} : dkC (.fz d) = dctD d := rfl
theorem keysOf_dictD : keysOf (dictD kvs) = some (kvs.map fun p => keyD p.1) := by
  show (if noExK (kvs.map fun p => (keyD p.1, p.2)) = true then some ((kvs.map fun p => (keyD p.1, p.2)).map (·.1)) else none) = _
  rw [if_pos (show noExK (kvs.map fun p => (keyD p.1, p.2)) = true from noEx_dictD kvs), List.map_map]
  rfl
theorem forDV_d {d : PyData} : forDV m g t D s (.d d) = onSome (keysOf d) fun ds => forW m (okG (fun _ => True) g) t D ds s := rfl
theorem forDV_r : forDV m g t D s (.r n) = onSome s.cs[n]? (forDC m n g t D s) := rfl
theorem forDC_dK : forDC m n g t D s (.dK kvs) = (n < m ∧ ∀ od es, forW m (okG (fun s => s.cs[n]? = some (.dl od es kvs)) g) t (D.unl n (.dl od es kvs) (.dK kvs)) (kvs.map fun p => keyD p.1) ⟨s.sl, s.cs.set n (.dl od es kvs)⟩) := rfl
theorem viewC_dl : viewC n (.dl od es kvs) = .dct (dkv kvs) := rfl
end
end Kr
/-! layer A16 -/
namespace Kr
open PySem L2
/-! ## [.. for x in a dict ..] -/
section
variable {X : Cx} {B : Bs} {ad : List Addr} {F H : Hp} {s : AS} {σ : St} {a : Addr} {es : List (Key × V)} {od : Obj}
theorem postN_unlock {Q : Cell → AS → Prop} {v : V} {H2 : Hp} (r : Rl B ad F H s σ) (hr : F a = some (.dK es)) (q : PostN (B.lk F a (.frz od (.dK es))) ad (sw F a (.frz od (.dK es))) σ Q v H2) : H2 a = some (.frz od (.dK es)) ∧ PostN B ad F σ Q v (upd H2 a (.dK es)) := by
  obtain ⟨ad2, F2, c, a2, p, H1, o, h1, h2, r2, rfl, hp, rfl, ok, hl, q⟩ := q
  obtain ⟨e1, e2, e3, e4⟩ := r.unlock hr (.inl rfl) (.inr ⟨od, rfl⟩) r2
  have hpa : p ≠ a := fun z => by subst z; rw [e2] at hp; cases hp
  have hap : a ≠ p := fun z => hpa z.symm
  have e5 : upd H1 p o a = some (.frz od (.dK es)) := by rw [upd_ne hap]; exact e2
  have e6 : upd (upd H1 p o) a (.dK es) = upd (sw H1 a (.dK es)) p o := by
    rw [sw_upd (ne_none e2)]
    funext b
    by_cases hb : b = a
    · subst hb; rw [upd_same, upd_ne hap, upd_same]
    · rw [upd_ne hb]
      by_cases hb2 : b = p
      · subst hb2; rw [upd_same, upd_same]
      · rw [upd_ne hb2, upd_ne hb2, upd_ne hb]
  refine ⟨e5, ad2, _, c, a2, p, sw H1 a (.dK es), o, h1, e3, e4, rfl, sw_none.mpr hp, e6, ?_, hl, q⟩
  have := ok.sw (o := .dK es) (IsDk.rd (.inr ⟨od, rfl⟩) e1) (.inl rfl) (fun _ => hpa) (fun q hq => by rw [live_ads hl] at hq; cases hq)
  rw [sw_upd (ne_none e5)] at this
  exact this
def keysV : AVal → Option (List PyData)
  | .d d => keysOf d
  | _ => none
def iterD (k : Nat) : TIO := fun s Q => onSome (s.sl[k]?.bind id) fun y => onSome (keysV y) fun ds => Q ds (fun _ => True) s
def HiD (X : Cx) (B : Bs) (tg iter : Expr) (ti : TIO) (ad : List Addr) (F H : Hp) (s : AS) (σ : St) : Prop := ∀ (Q : List PyData → (List Cell → Prop) → AS → Prop) (R : It → Hp → Prop), ti s Q → (∀ J ad2 F2 H2 s2 ds ok, Ext ad ad2 → Same F F2 → Rl B ad2 F2 H2 s2 σ → WalksO J ad2 F2 ds ok → ds.length ≤ sizeLine → Q ds ok s2 → R J H2) → WI X tg iter σ H R
theorem hiD {tg : Expr} {k : Nat} {x : Str} {p1 : Pos} {kvs : List (PyData × PyData)} (hN : X.N[k]? = some x) (hv : Vis X.env.scope x) (hd : (x == ("__debug__" : Str)) = false) (hcd : (x == ("__classdict__" : Str)) = false)
    (r : Rl B ad F H s σ) (hσ : σ[k]? = some (some (.ref a))) (hF : F a = some (.frz od (.dK es))) (hk : DaKV F kvs es) (hz : es.length ≤ sizeLine) (hy : s.sl[k]?.bind id = some (.d (.dict kvs))) : HiD X B tg (.Name x p1) (iterD k) ad F H s σ := by
  intro Q R t k
  obtain ⟨y, hy2, ds, hds, q⟩ := t
  rw [hy] at hy2
  cases hy2
  obtain ⟨_, rfl⟩ := keysOf_d hds
  have hl : es.length = (kvs.map (·.1)).length := by rw [List.length_map]; exact daKV_len hk
  refine wi_of (pi_keys (pe_var hN hv hd hcd)) ⟨_, hσ, a, od, rfl, .inl ⟨es, r.fh _ _ hF, k (Itk a od es) ad F H s _ _ (Ext.refl _) (Same.refl _) r (fun B3 ad3 F3 H3 s3 σ3 _ k3 r3 _ => ?_) (by rw [← hl]; exact hz) q⟩⟩
  obtain ⟨w1, w2⟩ := walk_keys (F3 := F3) (r3.fh _ _ (k3 _ _ hF)) hl (fun i d k v => daKV_key hk)
  refine ⟨fun i d e => ⟨(w1 i d e).1, fun x H4 y => ?_⟩, w2⟩
  obtain ⟨rfl, hd⟩ := (w1 i d e).2 x H4 y
  exact ⟨F3, .refl r3.fh, hd⟩
/-- locked or not yet -/
theorem we_dict {k : Nat} {x : Str} {p1 : Pos} {tg e : Expr} {Q : Cell → AS → Prop} (hN : X.N[k]? = some x) (hv : Vis X.env.scope x) (hd : (x == ("__debug__" : Str)) = false) (hcd : (x == ("__classdict__" : Str)) = false) {y : AVal} (hy : s.sl[k]?.bind id = some y) (hds : ∃ ds, (keysV y) = some ds)
    (r : Rl B ad F H s σ) (main : ∀ (F0 H0 F1 H1 : Hp), Rl ⟨B.S, F0, H0, B.T⟩ ad F1 H1 s σ → HiD X ⟨B.S, F0, H0, B.T⟩ tg (.Name x p1) (iterD k) ad F1 H1 s σ → WE X e σ H1 (PostN ⟨B.S, F0, H0, B.T⟩ ad F1 σ Q)) : WE X e σ H (PostN B ad F σ Q) := by
  obtain ⟨ds, hds⟩ := hds
  obtain ⟨v, hv1, hvo⟩ := r.slt k y (slot_some hy)
  cases y with
  | s _ _ => cases hds
  | a _ _ _ => cases hds
  | r _ => cases hds
  | d z =>
    cases z with
    | dict kvs =>
      obtain ⟨a, es, rfl, hr, hkv⟩ := Da.dict hvo (keysOf_d hds).1
      intro pins sh I
      have hz : es.length ≤ sizeLine := ((Rd.up r.fh hr).ok I.hok).1
      rcases hr with hr | ⟨od, hr⟩
      · refine we_of (pe_lock pe_we) ⟨a, .dK es, r.fh _ _ hr, trivial, fun od => ?_⟩ pins sh I
        rw [← sw_upd (ne_none (r.fh _ _ hr))]
        have r1 := r.lock (o := .frz od (.dK es)) (.inl hr) (.inr ⟨od, rfl⟩)
        exact (main _ _ _ _ r1 (hiD hN hv hd hcd r1 hv1 (sw_at (ne_none hr)) (DaKV.sw (.inl hr) (.inr ⟨od, rfl⟩) hkv) hz hy)).imp fun v H2 q => postN_unlock r hr q
      · exact main B.F0 B.H0 F H r (hiD hN hv hd hcd r hv1 hr hkv hz hy) pins sh I
    | _ => cases hds
theorem ws_dict {k : Nat} {x : Str} {p1 : Pos} {tg : Expr} {st : Stmt} {D : DA} (hN : X.N[k]? = some x) (hv : Vis X.env.scope x) (hd : (x == ("__debug__" : Str)) = false) (hcd : (x == ("__classdict__" : Str)) = false) {y : AVal} (hy : s.sl[k]?.bind id = some y) (hds : ∃ ds, (keysV y) = some ds)
    (r : Rl B ad F H s σ) (main : ∀ (F0 H0 F1 H1 : Hp), Rl ⟨B.S, F0, H0, B.T⟩ ad F1 H1 s σ → HiD X ⟨B.S, F0, H0, B.T⟩ tg (.Name x p1) (iterD k) ad F1 H1 s σ → WS X st (liftD ⟨B.S, F0, H0, B.T⟩ D) σ H1) : WS X st (liftD B D) σ H := by
  obtain ⟨ds, hds⟩ := hds
  obtain ⟨v, hv1, hvo⟩ := r.slt k y (slot_some hy)
  cases y with
  | s _ _ => cases hds
  | a _ _ _ => cases hds
  | r _ => cases hds
  | d z =>
    cases z with
    | dict kvs =>
      obtain ⟨a, es, rfl, hr, hkv⟩ := Da.dict hvo (keysOf_d hds).1
      intro pins sh I
      have hz : es.length ≤ sizeLine := ((Rd.up r.fh hr).ok I.hok).1
      rcases hr with hr | ⟨od, hr⟩
      · refine ws_of (ps_lock ps_ws) ⟨a, .dK es, r.fh _ _ hr, trivial, fun od => ?_⟩ pins sh I
        refine ends_unlock r hr ?_
        rw [← sw_upd (ne_none (r.fh _ _ hr))]
        have r1 := r.lock (o := .frz od (.dK es)) (.inl hr) (.inr ⟨od, rfl⟩)
        exact main _ _ _ _ r1 (hiD hN hv hd hcd r1 hv1 (sw_at (ne_none hr)) (DaKV.sw (.inl hr) (.inr ⟨od, rfl⟩) hkv) hz hy)
      · exact main B.F0 B.H0 F H r (hiD hN hv hd hcd r hv1 hr hkv hz hy) pins sh I
    | _ => cases hds
end
section
variable {X : Cx} {B : Bs} {elt tg c : Expr} {scope : Scope} {pos spos py p1 : Pos} {y x : Str} {g : TGA} {tt : TTA} {te : TEA} {ks : List Nat}
theorem iterD_some {k : Nat} {s : AS} {Q : List PyData → (List Cell → Prop) → AS → Prop} (h : iterD k s Q) : ∃ y, s.sl[k]?.bind id = some y ∧ ∃ ds, (keysV y) = some ds := by
  obtain ⟨y, hy, ds, hds, _⟩ := h
  exact ⟨y, hy, ds, hds⟩
theorem en_lcD (kd : Nat) (own : List (Str × Nat)) (o : LcOk X scope own (.Name x p1)) (hg : ∀ s H0 C cl fp, GT (Blk X scope s H0 C cl fp) tg ks g) (he : ∀ s H0 C cl fp B', EA (Blk X scope s H0 C cl fp) B' elt te) (hk : ∀ k ∈ ks, k ∈ own.map (·.2) := by decide)
    (hN : X.N[kd]? = some x := by rfl) (hv : Vis X.env.scope x := by first | exact Or.inl rfl | exact Or.inr (Or.inl rfl) | exact Or.inr (Or.inr rfl)) (hd : (x == ("__debug__" : Str)) = false := by decide) (hcd : (x == ("__classdict__" : Str)) = false := by decide) :
    EN X B (.ListComp elt [⟨tg, .Name x p1, [], 0⟩] scope pos) (lcN (iterD kd) g yesA te (own.map (·.2))) := ⟨fun ad F H s σ Q r t => by
  obtain ⟨y, hy, hds⟩ := iterD_some t
  refine we_dict (tg := tg) (p1 := p1) hN hv hd hcd hy hds r fun F0 H0 F1 H1 r1 hi => ?_
  exact we_of (pe_lc (g := gB X scope tg) (tt := tYes) (te := eB X scope elt) o.calm o.nd pi_wi (blkOk_by o.ok) (fun s H0 C cl fp => ⟨fun pins s' σ H v u Q I r h => h s H0 C cl fp pins s' u I r⟩) (fun _ _ _ _ _ => pts_nil) (fun s H0 C cl fp => ⟨fun pins s' σ H Q I h => h s H0 C cl fp pins s' I⟩) o.fs)
    (lc_coreB hg hk (fun B' ad F H s σ Q r t => tYes_ok r t) (fun σ H Q Q' h k => k _ _ h) he hi r1 t fun _ _ h => h)⟩
theorem en_lcIfD (kd : Nat) (own : List (Str × Nat)) (o : LcOk X scope own (.Name x p1)) (hg : ∀ s H0 C cl fp, GT (Blk X scope s H0 C cl fp) tg ks g) (ht : ∀ s H0 C cl fp B', ET (Blk X scope s H0 C cl fp) B' c tt) (he : ∀ s H0 C cl fp B', EA (Blk X scope s H0 C cl fp) B' elt te) (hk : ∀ k ∈ ks, k ∈ own.map (·.2) := by decide)
    (hN : X.N[kd]? = some x := by rfl) (hv : Vis X.env.scope x := by first | exact Or.inl rfl | exact Or.inr (Or.inl rfl) | exact Or.inr (Or.inr rfl)) (hd : (x == ("__debug__" : Str)) = false := by decide) (hcd : (x == ("__classdict__" : Str)) = false := by decide) :
    EN X B (.ListComp elt [⟨tg, .Name x p1, [c], 0⟩] scope pos) (lcN (iterD kd) g tt te (own.map (·.2))) := ⟨fun ad F H s σ Q r t => by
  obtain ⟨y, hy, hds⟩ := iterD_some t
  refine we_dict (tg := tg) (p1 := p1) hN hv hd hcd hy hds r fun F0 H0 F1 H1 r1 hi => ?_
  exact we_of (pe_lc (g := gB X scope tg) (tt := tB' X scope c) (te := eB X scope elt) o.calm o.nd pi_wi (blkOk_by o.ok) (fun s H0 C cl fp => ⟨fun pins s' σ H v u Q I r h => h s H0 C cl fp pins s' u I r⟩) (fun s H0 C cl fp => pts_one ⟨fun pins s' σ H Q I h => h s H0 C cl fp pins s' I⟩) (fun s H0 C cl fp => ⟨fun pins s' σ H Q I h => h s H0 C cl fp pins s' I⟩) o.fs)
    (lc_coreB hg hk (fun B' ad F H s σ Q r t s0 H0 C cl fp => (ht s0 H0 C cl fp B').run ad F H s σ Q r t) (fun σ H Q Q' h k s0 H0 C cl fp => (h s0 H0 C cl fp).imp k) he hi r1 t fun _ _ h => h)⟩
theorem sa_setLcIfDF (k kd : Nat) (own : List (Str × Nat)) (o : LcOk X scope own (.Name x p1)) (hg : ∀ s H0 C cl fp, GT (Blk X scope s H0 C cl fp) tg ks g) (ht : ∀ s H0 C cl fp B', ET (Blk X scope s H0 C cl fp) B' c tt) (he : ∀ s H0 C cl fp B', EA (Blk X scope s H0 C cl fp) B' elt te)
    (hk : ∀ k ∈ ks, k ∈ own.map (·.2) := by decide) (hy : X.N[k]? = some y := by rfl) (hyl : X.env.scope.names.lookup y = some .local := by rfl)
    (hsw : swapsWith (.ListComp elt [⟨tg, .Name x p1, [c], 0⟩] scope pos) (some (.Name y py)) spos.line X.env = pure true := by exact sw_true rfl rfl rfl (by decide +kernel))
    (hN : X.N[kd]? = some x := by rfl) (hv : Vis X.env.scope x := by first | exact Or.inl rfl | exact Or.inr (Or.inl rfl) | exact Or.inr (Or.inr rfl)) (hd : (x == ("__debug__" : Str)) = false := by decide) (hcd : (x == ("__classdict__" : Str)) = false := by decide) :
    SA X B (.Assign [.Name y py] (.ListComp elt [⟨tg, .Name x p1, [c], 0⟩] scope pos) spos) (setA k (frzA (lcN (iterD kd) g tt te (own.map (·.2))))) := ⟨fun D s h ad F H σ r => by
  have h' := h
  unfold setA frzA lcN at h'
  obtain ⟨z, hz, hds⟩ := iterD_some h'
  refine ws_dict (tg := tg) (p1 := p1) hN hv hd hcd hz hds r fun F0 H0 F1 H1 r1 hi => ?_
  exact ws_of (ps_setLc (g := gB X scope tg) (tt := tB' X scope c) (te := eB X scope elt) o.calm o.nd hy hyl hsw pi_wi (blkOk_by o.ok) (fun s H0 C cl fp => ⟨fun pins s' σ H v u Q I r h => h s H0 C cl fp pins s' u I r⟩) (fun s H0 C cl fp => pts_one ⟨fun pins s' σ H Q I h => h s H0 C cl fp pins s' I⟩) (fun s H0 C cl fp => ⟨fun pins s' σ H Q I h => h s H0 C cl fp pins s' I⟩) o.fs)
    (lc_coreB (B := ⟨B.S, F0, H0, B.T⟩) (Q := fun c s1 => onSome (frzC c) fun d => D.nx ⟨s1.sl.set k (some (.d d)), s1.cs⟩) hg hk (fun B' ad F H s σ Q r t s0 H0 C cl fp => (ht s0 H0 C cl fp B').run ad F H s σ Q r t) (fun σ H Q Q' h k s0 H0 C cl fp => (h s0 H0 C cl fp).imp k) he hi r1 h fun v H' p => by
      obtain ⟨ad1, F1, y, s1, e1, k1, r1, hv, q⟩ := PostN.frz (Q := fun x s1 => D.nx ⟨s1.sl.set k (some x), s1.cs⟩) p
      exact ⟨ad1, F1, _, r1.set hv, q⟩)⟩
theorem keysV_d {d : PyData} : keysV (.d d) = keysOf d := rfl
end
end Kr
/-! layer A17 -/
namespace Kr
open PySem L2
/-! ## a list handed in is walked, told for good or a cell that stands still -/
abbrev TIH := AS → (List PyData → (AS → Prop) → AS → Prop) → Prop
def DA.okN (D : DA) (ok : AS → Prop) : DA := { D with nx := fun s => ok s ∧ D.nx s }
def forHA (m : Nat) (ti : TIH) (g : TGA) (t : TSA) : TSA := fun D s => ti s fun ds ok s1 => forW m (okG ok g) t (D.okN ok) ds s1
section
variable {X : Cx} {B : Bs} {tg iter : Expr} {body : List Stmt} {t : TSA} {g : TGA} {ks : List Nat} {pos : Pos} {ti : TIH}
/-- the list a slot holds -/
def ihC (m n : Nat) (f : List PyData → List PyData) (s : AS) (Q : List PyData → (AS → Prop) → AS → Prop) : Cell → Prop
  | .lst ds => n < m ∧ Q (f ds) (fun s => s.cs[n]? = some (.lst ds)) s
  | .fz (.list ds) => Q (f ds) (fun _ => True) s
  | _ => False
def ihV (m : Nat) (f : List PyData → List PyData) (s : AS) (Q : List PyData → (AS → Prop) → AS → Prop) : AVal → Prop
  | .d (.list ds) => Q (f ds) (fun _ => True) s
  | .r n => onSome s.cs[n]? (ihC m n f s Q)
  | _ => False
def iterH (m : Nat) (f : List PyData → List PyData) (ta : TEA) : TIH := fun s Q => ta s fun x s1 => ihV m f s1 Q x
variable {e : Expr} {ta : TEA} {p : Pos}
variable {m n : Nat} {f : List PyData → List PyData} {s : AS} {Q : List PyData → (AS → Prop) → AS → Prop} {ds : List PyData}
theorem ihV_d : ihV m f s Q (.d (.list ds)) = Q (f ds) (fun _ => True) s := rfl
theorem ihV_r : ihV m f s Q (.r n) = onSome s.cs[n]? (ihC m n f s Q) := rfl
theorem ihC_lst : ihC m n f s Q (.lst ds) = (n < m ∧ Q (f ds) (fun s => s.cs[n]? = some (.lst ds)) s) := rfl
theorem ihC_fz : ihC m n f s Q (.fz (.list ds)) = Q (f ds) (fun _ => True) s := rfl
end
end Kr
/-! layer A18 -/
namespace Kr
open PySem L2
/-! ## trees that change -/
def Tr.put (t : Tr) : List Nat → Tr → Tr
  | [], u => u
  | i :: p, u => match t.at p with
    | some (.nd k a xs) => t.put p (.nd k a (xs.set i u))
    | _ => t
theorem cnt_nd {k : Kd} {a : Addr} {xs : List Tr} (q : Addr) : (Tr.nd k a xs).addrs.count q = (if a = q then 1 else 0) + k.more.count q + (Tr.addrsL xs).count q := by
  show (a :: (k.more ++ Tr.addrsL xs)).count q = _
  rw [List.count_cons, List.count_append]
  simp only [beq_iff_eq]
  omega
theorem cntL_cons {t : Tr} {ts : List Tr} (q : Addr) : (Tr.addrsL (t :: ts)).count q = t.addrs.count q + (Tr.addrsL ts).count q := by
  show (t.addrs ++ Tr.addrsL ts).count q = _
  rw [List.count_append]
theorem cntL_nil (q : Addr) : (Tr.addrsL []).count q = 0 := rfl
theorem cntL_app {ts us : List Tr} (q : Addr) : (Tr.addrsL (ts ++ us)).count q = (Tr.addrsL ts).count q + (Tr.addrsL us).count q := by
  induction ts with
  | nil => simp [Tr.addrsL]
  | cons t ts ih => rw [List.cons_append, cntL_cons, cntL_cons, ih]; omega
theorem cntL_leafs (ds : List PyData) (q : Addr) : (Tr.addrsL (ds.map .d)).count q = 0 := by
  induction ds with
  | nil => rfl
  | cons d ds ih => rw [List.map_cons, cntL_cons, ih]; rfl
theorem addrsL_leafs (ds : List PyData) : Tr.addrsL (ds.map .d) = [] := by
  induction ds with
  | nil => rfl
  | cons d ds ih => show [] ++ _ = _; rw [ih]; rfl
theorem cntL_get {ts : List Tr} {i : Nat} {t : Tr} (h : ts[i]? = some t) (q : Addr) : t.addrs.count q ≤ (Tr.addrsL ts).count q := by
  induction ts generalizing i with
  | nil => simp at h
  | cons u ts ih =>
    rw [cntL_cons]
    cases i with
    | zero => simp at h; subst h; omega
    | succ i => have := ih (i := i) (by simpa using h); omega
theorem cntL_set {ts : List Tr} {i : Nat} {t u : Tr} (h : ts[i]? = some t) (q : Addr) : (Tr.addrsL (ts.set i u)).count q + t.addrs.count q = (Tr.addrsL ts).count q + u.addrs.count q := by
  induction ts generalizing i with
  | nil => simp at h
  | cons w ts ih =>
    cases i with
    | zero => simp at h; subst h; rw [List.set_cons_zero, cntL_cons, cntL_cons]; omega
    | succ i => rw [List.set_cons_succ, cntL_cons, cntL_cons]; have := ih (i := i) (by simpa using h); omega
theorem cntT_at {t : Tr} : ∀ {pt : List Nat} {u : Tr}, t.at pt = some u → ∀ q, u.addrs.count q ≤ t.addrs.count q
  | [], u, e, q => by cases e; exact Nat.le_refl _
  | i :: p, u, e, q => by
    unfold Tr.at at e
    split at e
    · rename_i k a xs hp
      have h1 := cntT_at hp q
      have h2 := cntL_get e q
      rw [cnt_nd] at h1
      omega
    · cases e
theorem cnt_put {t : Tr} : ∀ {pt : List Nat} {u0 u : Tr}, t.at pt = some u0 → ∀ q, (t.put pt u).addrs.count q + u0.addrs.count q = t.addrs.count q + u.addrs.count q
  | [], u0, u, e, q => by cases e; show u.addrs.count q + _ = _; omega
  | i :: p, u0, u, e, q => by
    unfold Tr.at at e
    unfold Tr.put
    split at e
    · rename_i k a xs hp
      try rw [hp]
      have h1 := cnt_put (u := .nd k a (xs.set i u)) hp q
      have h2 := cntL_set (u := u) e q
      rw [cnt_nd, cnt_nd] at h1
      try dsimp only
      omega
    · cases e
theorem root_put {t : Tr} : ∀ {pt : List Nat} {u0 u : Tr}, t.at pt = some u0 → u.root = u0.root → (t.put pt u).root = t.root
  | [], u0, u, e, h => by cases e; exact h
  | i :: p, u0, u, e, h => by
    unfold Tr.at at e
    unfold Tr.put
    split at e
    · rename_i k a xs hp
      try rw [hp]
      exact root_put hp rfl
    · cases e
theorem TrAll.set {F H : Hp} {ts : List Tr} {vs : List V} {i : Nat} {u : Tr} {w : V} (h : TrAll F H ts vs) (hw : vs[i]? = some w) (hu : TrOk F H u w) : TrAll F H (ts.set i u) vs := by
  induction ts generalizing vs i with
  | nil => simpa using h
  | cons t ts ih =>
    obtain ⟨v, r, rfl, h1, h2⟩ := (show ∃ v r, vs = v :: r ∧ TrOk F H t v ∧ TrAll F H ts r from h)
    cases i with
    | zero => simp at hw; subst hw; exact ⟨v, r, rfl, hu, h2⟩
    | succ i => exact ⟨v, r, rfl, h1, ih h2 (by simpa using hw)⟩
theorem TrAll.monoBut {F H H2 : Hp} {ts : List Tr} {vs : List V} {i : Nat} {u : Tr} (h : TrAll F H ts vs) (e : ∀ (j : Nat) (t : Tr), j ≠ i → ts[j]? = some t → ∀ q ∈ t.addrs, ∀ o, H q = some o → H2 q = some o) {w : V} (hw : vs[i]? = some w) (hu : TrOk F H2 u w) : TrAll F H2 (ts.set i u) vs := by
  induction ts generalizing vs i with
  | nil => obtain rfl := (show vs = [] from h); simp at hw
  | cons t ts ih =>
    obtain ⟨v, r, rfl, h1, h2⟩ := (show ∃ v r, vs = v :: r ∧ TrOk F H t v ∧ TrAll F H ts r from h)
    cases i with
    | zero =>
      simp at hw; subst hw
      refine ⟨v, r, rfl, hu, h2.mono (Same.refl _) fun q hq o ho => ?_⟩
      have key : ∀ (us : List Tr) (q : Addr), q ∈ Tr.addrsL us → ∃ (j : Nat) (t : Tr), us[j]? = some t ∧ q ∈ t.addrs := by
        intro us q hq
        induction us with
        | nil => cases hq
        | cons t us ih =>
          rcases List.mem_append.mp (show q ∈ t.addrs ++ Tr.addrsL us from hq) with h | h
          · exact ⟨0, t, rfl, h⟩
          · obtain ⟨j, u, h1, h2⟩ := ih h
            exact ⟨j + 1, u, by simpa using h1, h2⟩
      obtain ⟨j, t', hj, hq'⟩ := key ts q hq
      exact e (j + 1) t' (by omega) (by simpa using hj) q hq' o ho
    | succ i =>
      refine ⟨v, r, rfl, h1.mono (Same.refl _) fun q hq o ho => e 0 t (by omega) rfl q hq o ho, ih h2 (fun j t' hj ht => e (j + 1) t' (by omega) (by simpa using ht)) (by simpa using hw)⟩
theorem TrOk.put {F H H2 : Hp} {t : Tr} {v : V} (h : TrOk F H t v) (nd : ∀ q, t.addrs.count q ≤ 1) : ∀ {pt : List Nat} {u0 u : Tr} {q : Addr}, t.at pt = some u0 → u0.root = some q → u.root = some q → TrOk F H2 u (.ref q) → (∀ b o, b ∉ u0.addrs → H b = some o → H2 b = some o) → TrOk F H2 (t.put pt u) v
  | [], u0, u, q, e, h0, h1, hu, hH => by
    cases e
    cases t with
    | d _ => cases h0
    | nd k a xs => cases h0; rw [h.node.1]; exact hu
  | i :: p, u0, u, q, e, h0, h1, hu, hH => by
    unfold Tr.at at e
    unfold Tr.put
    split at e
    · rename_i k a xs hp
      try rw [hp]
      obtain ⟨w, hw⟩ := h.at hp
      obtain ⟨_, vs, g1, g2, g3⟩ := hw.node
      obtain ⟨z, hz, hz2⟩ := g3.get e
      have hzq : z = .ref q := by
        cases u0 with
        | d _ => cases h0
        | nd k0 a0 xs0 => cases h0; exact hz2.node.1
      subst hzq
      have ndn : ∀ b, (Tr.nd k a xs).addrs.count b ≤ 1 := fun b => Nat.le_trans (cntT_at hp b) (nd b)
      have off : ∀ b, b ∈ u0.addrs → (if a = b then 1 else 0) + k.more.count b = 0 ∧ (Tr.addrsL xs).count b = u0.addrs.count b := fun b hb => by
        have c1 := ndn b
        rw [cnt_nd] at c1
        have c2 := cntL_get e b
        have c3 := List.count_pos_iff.mpr hb
        omega
      have ha : a ∉ u0.addrs := fun z => by have := (off a z).1; simp at this
      refine h.put nd hp rfl rfl (TrOk.of (vs := vs) (hH a _ ha g1) ?_ ?_) fun b o hb ho => hH b o (fun z => hb ?_) ho
      · rw [List.length_set]
        refine Kd.side_mono (F := F) g2 fun b hb o ho => hH b o (fun z => ?_) ho
        have := (off b z).1
        have c := List.count_pos_iff.mpr hb
        omega
      · refine g3.monoBut (fun j t' hj ht b hb o ho => hH b o (fun z => ?_) ho) hz hu
        have c1 := (off b z).2
        have c2 := cntL_set (u := .d .none) e b
        have c3 := cntL_get (ts := xs.set i (.d .none)) (i := j) (t := t') (by rw [List.getElem?_set_ne (fun z => hj z.symm)]; exact ht) b
        have c4 := List.count_pos_iff.mpr hb
        have c5 : (Tr.d .none).addrs.count b = 0 := rfl
        omega
      · have c2 := cntL_get e b
        have c3 := List.count_pos_iff.mpr z
        refine List.count_pos_iff.mp ?_
        rw [cnt_nd]
        omega
    · cases e
theorem flat_count_set {cs : List Cell} {n : Nat} {c d : Cell} (h : cs[n]? = some c) (q : Addr) : ((cs.set n d).flatMap Cell.ads).count q + c.ads.count q = (cs.flatMap Cell.ads).count q + d.ads.count q := by
  induction cs generalizing n with
  | nil => simp at h
  | cons e cs ih =>
    cases n with
    | zero => simp at h; subst h; rw [List.set_cons_zero, List.flatMap_cons, List.flatMap_cons, List.count_append, List.count_append]; omega
    | succ n => rw [List.set_cons_succ, List.flatMap_cons, List.flatMap_cons, List.count_append, List.count_append]; have := ih (n := n) (by simpa using h); omega
theorem flat_count_get {cs : List Cell} {n : Nat} {c : Cell} (h : cs[n]? = some c) (q : Addr) : c.ads.count q ≤ (cs.flatMap Cell.ads).count q := by
  have := flat_count_set (d := .gone) h q
  have e : (Cell.gone).ads.count q = 0 := rfl
  omega
/-- trees that stand in no cell -/
structure Loose (B : Bs) (ad : List Addr) (F H : Hp) (cs : List Cell) (ls : List Tr) : Prop where
  cnt : ∀ q, (Tr.addrsL ls).count q + (cs.flatMap Cell.ads).count q ≤ 1
  off : ∀ q ∈ Tr.addrsL ls, ∀ i : Nat, ad[i]? = some q → cs[i]? = some Cell.gone
  fr : ∀ q ∈ Tr.addrsL ls, F q = none ∧ H q ≠ none
  own : ∀ q ∈ Tr.addrsL ls, q ∈ B.S ∨ q ∈ B.T ∨ B.H0 q = none
section
variable {B : Bs} {ad : List Addr} {F H : Hp} {s : AS} {σ : St} {x : AVal} {v : V} {n : Nat} {pt : List Nat} {k k' : Kd} {q p : Addr} {xs ys ls : List Tr} {t : Tr} {vs ws : List V} {cs : List Cell}
theorem nodup_cnt {l : List Addr} : l.Nodup ↔ ∀ q, l.count q ≤ 1 := List.nodup_iff_count
theorem Loose.nil (r : Rl B ad F H s σ) : Loose B ad F H s.cs [] := ⟨fun q => by rw [cntL_nil]; have := nodup_cnt.mp r.inn.nd q; omega, (fun _ h => nomatch h), (fun _ h => nomatch h), (fun _ h => nomatch h)⟩
theorem NodeAt.mem (N : NodeAt ad F H s v n pt k q xs t p vs) : q ∈ t.addrs := by
  have := cntT_at N.here q
  rw [cnt_nd, if_pos rfl] at this
  exact List.count_pos_iff.mp (by omega)
theorem side_upd {o : HO} {m : Nat} (h : k'.side H q m) (hm : q ∉ k'.more) : k'.side (upd H q o) q m := by
  cases k' with
  | obj C dx fs => exact ⟨by rw [upd_ne (fun z => hm (by simp [Kd.more, z]))]; exact h.1, h.2⟩
  | _ => exact h
/-- a node of a tree changes; loose trees go into it -/
theorem Rl.mutT (r : Rl B ad F H s σ) (L : Loose B ad F H s.cs ls) (N : NodeAt ad F H s v n pt k q xs t p vs) (hm : k'.more = k.more) (hc : ∀ b, (Tr.addrsL ys).count b ≤ (Tr.addrsL xs).count b + (Tr.addrsL ls).count b) (hw : TrAll F H ys ws) (hs : k'.side H q ys.length) :
    Rl B ad F (upd H q (k'.ho ws)) ⟨s.sl, s.cs.set n (.tr (t.put pt (.nd k' q ys)))⟩ σ := by
  have hqt := N.mem
  have hqc : q ∈ s.cs.flatMap Cell.ads := mem_ads N.cell hqt
  have tot := fun b => nodup_cnt.mp r.inn.nd b
  have tcnt : ∀ b, t.addrs.count b ≤ (s.cs.flatMap Cell.ads).count b := fun b => flat_count_get N.cell b
  have ndt : ∀ b, t.addrs.count b ≤ 1 := fun b => Nat.le_trans (tcnt b) (tot b)
  have ndn : ∀ b, (Tr.nd k q xs).addrs.count b ≤ 1 := fun b => Nat.le_trans (cntT_at N.here b) (ndt b)
  have hq1 : 1 ≤ (s.cs.flatMap Cell.ads).count q := List.count_pos_iff.mpr hqc
  have hql := L.cnt q
  have hqn := ndn q
  rw [cnt_nd, if_pos rfl] at hqn
  have hqy : q ∉ Tr.addrsL ys := fun z => by
    have := List.count_pos_iff.mpr z
    have := hc q
    omega
  have hqm : q ∉ k'.more := fun z => by
    rw [hm] at z
    have := List.count_pos_iff.mpr z
    omega
  obtain ⟨hFq, hHq⟩ := r.inn.fr q hqc
  have up : ∀ b, b ≠ q → upd H q (k'.ho ws) b = H b := fun b hb => upd_ne hb
  have cput : ∀ b, (t.put pt (.nd k' q ys)).addrs.count b ≤ t.addrs.count b + (Tr.addrsL ls).count b := fun b => by
    have h1 := cnt_put (u := .nd k' q ys) N.here b
    rw [cnt_nd, cnt_nd, hm] at h1
    have := hc b
    omega
  have hu : TrOk F (upd H q (k'.ho ws)) (.nd k' q ys) (.ref q) := TrOk.of upd_same (side_upd hs hqm) (hw.mono (Same.refl _) fun b hb o ho => by rw [up b (fun z => hqy (z ▸ hb))]; exact ho)
  have htree : TrOk F (upd H q (k'.ho ws)) (t.put pt (.nd k' q ys)) (.ref p) := N.tree.put ndt N.here rfl rfl hu fun b o hb ho => by
    rw [up b (fun z => hb (z ▸ List.mem_cons_self ..))]; exact ho
  have hroot : (t.put pt (.nd k' q ys)).root = some p := by
    rw [root_put (u := .nd k' q ys) N.here rfl]
    exact (r.cel n p _ N.root N.cell).2.2.1
  have hnl : n < s.cs.length := (List.getElem?_eq_some_iff.mp N.cell).1
  have memN : ∀ b, b ∈ (s.cs.set n (.tr (t.put pt (.nd k' q ys)))).flatMap Cell.ads → b ∈ s.cs.flatMap Cell.ads ∨ b ∈ Tr.addrsL ls := fun b hb => by
    have h1 := flat_count_set (d := .tr (t.put pt (.nd k' q ys))) N.cell b
    have h2 := cput b
    have h3 := List.count_pos_iff.mpr hb
    have h4 : (Cell.tr (t.put pt (.nd k' q ys))).ads = (t.put pt (.nd k' q ys)).addrs := rfl
    have h5 : (Cell.tr t).ads = t.addrs := rfl
    rw [h4, h5] at h1
    by_cases h6 : 0 < (s.cs.flatMap Cell.ads).count b
    · exact .inl (List.count_pos_iff.mp h6)
    · have := tcnt b
      exact .inr (List.count_pos_iff.mp (by omega))
  have inn : Inn B ad F (upd H q (k'.ho ws)) (s.cs.set n (.tr (t.put pt (.nd k' q ys)))) := by
    refine ⟨nodup_cnt.mpr fun b => ?_, fun b hb i hi => ?_, fun b hb => ?_, fun b hb => (memN b hb).elim (r.inn.own b) (L.own b), r.inn.old⟩
    · have h1 := flat_count_set (d := .tr (t.put pt (.nd k' q ys))) N.cell b
      have h2 := cput b
      have h3 := L.cnt b
      have h4 : (Cell.tr (t.put pt (.nd k' q ys))).ads = (t.put pt (.nd k' q ys)).addrs := rfl
      have h5 : (Cell.tr t).ads = t.addrs := rfl
      rw [h4, h5] at h1
      omega
    · by_cases hin : i = n
      · subst hin
        rw [N.root] at hi
        cases hi
        exact .inr ⟨_, List.getElem?_set_self hnl, hroot⟩
      · rw [List.getElem?_set_ne (fun z => hin z.symm)]
        rcases memN b hb with hb | hb
        · exact r.inn.off b hb i hi
        · exact .inl (L.off b hb i hi)
    · have : F b = none ∧ H b ≠ none := (memN b hb).elim (r.inn.fr b) (L.fr b)
      refine ⟨this.1, ?_⟩
      by_cases hbq : b = q
      · subst hbq; exact ne_none upd_same
      · rw [up b hbq]; exact this.2
  refine ⟨r.ff, same_mut r.fh hFq, fun b o hb ht e => ?_, fun b hb => ?_, r.new, r.pre, r.nd, by show ad.length = (s.cs.set n _).length; rw [List.length_set]; exact r.len, fun i b c h1 h2 => ?_, r.sln, r.slt, inn⟩
  · rw [up b (fun z => by
      subst z
      rcases r.inn.own b hqc with z | z | z
      · exact hb z
      · exact ht z
      · rw [z] at e; cases e)]
    exact r.hh b o hb ht e
  · by_cases hbq : b = q
    · subst hbq; exact ne_none upd_same
    · rw [up b hbq]; exact r.al b hb
  · by_cases hin : i = n
    · subst hin
      have h2 : (s.cs.set i (.tr (t.put pt (.nd k' q ys))))[i]? = some c := h2
      rw [List.getElem?_set_self hnl] at h2
      cases h2
      rw [N.root] at h1
      cases h1
      refine ⟨?_, (fun z => nomatch z), hroot, htree⟩
      by_cases hbq : p = q
      · subst hbq; exact ne_none upd_same
      · rw [up p hbq]; exact r.mem (List.mem_of_getElem? N.root)
    · have g2 : (s.cs.set n (.tr (t.put pt (.nd k' q ys))))[i]? = some c := h2
      rw [List.getElem?_set_ne (fun z => hin z.symm)] at g2
      obtain ⟨n0, l, ok⟩ := r.cel i b c h1 g2
      have n0' : upd H q (k'.ho ws) b ≠ none := by
        by_cases hbq : b = q
        · subst hbq; exact ne_none upd_same
        · rw [up b hbq]; exact n0
      by_cases hbq : b = q
      · subst hbq
        rcases r.inn.off b hqc i h1 with e | ⟨t', e, er⟩
        · rw [g2] at e; cases e
          exact ⟨n0', (fun z => nomatch z), trivial⟩
        · exfalso
          have hm2 : b ∈ (Cell.tr t').ads := by
            cases t' with
            | d _ => cases er
            | nd _ _ _ => cases er; exact List.mem_cons_self ..
          exact hin ((flat_nd.mp r.inn.nd).2 i n _ _ b e N.cell hm2 hqt)
      · refine ⟨n0', l, ok.mono (Ext.refl _) (Same.refl _) (fun o ho => by rw [up b hbq]; exact ho) fun b' hb' o ho => ?_⟩
        rw [up b' (fun z => by
          subst z
          exact hin ((flat_nd.mp r.inn.nd).2 i n _ _ b' g2 N.cell hb' hqt))]
        exact ho
/-- a new node of loose trees -/
theorem Rl.newT (r : Rl B ad F H s σ) (L : Loose B ad F H s.cs ls) (hp : H p = none) (hm : k.more = []) (hw : TrAll F H ls ws) (hs : k.side H p ls.length) : Rl B (ad ++ [p]) F (upd H p (k.ho ws)) ⟨s.sl, s.cs ++ [.tr (.nd k p ls)]⟩ σ := by
  obtain ⟨f1, f2, f3⟩ := r.fresh hp
  have f4 : p ∉ s.cs.flatMap Cell.ads := fun z => (r.inn.fr p z).2 hp
  have f5 : p ∉ Tr.addrsL ls := fun z => (L.fr p z).2 hp
  have hFp : F p = none := r.fh.free hp
  have up : ∀ b, b ≠ p → upd H p (k.ho ws) b = H b := fun b hb => upd_ne hb
  have hads : (s.cs ++ [Cell.tr (.nd k p ls)]).flatMap Cell.ads = s.cs.flatMap Cell.ads ++ p :: Tr.addrsL ls := by
    rw [List.flatMap_append]
    show _ ++ ((p :: (k.more ++ Tr.addrsL ls)) ++ []) = _
    rw [hm, List.append_nil]; rfl
  have memN : ∀ b, b ∈ (s.cs ++ [Cell.tr (.nd k p ls)]).flatMap Cell.ads → b = p ∨ b ∈ s.cs.flatMap Cell.ads ∨ b ∈ Tr.addrsL ls := fun b hb => by
    rw [hads] at hb
    rcases List.mem_append.mp hb with hb | hb
    · exact .inr (.inl hb)
    · rcases List.mem_cons.mp hb with hb | hb
      · exact .inl hb
      · exact .inr (.inr hb)
  have hlen := r.len
  have inn : Inn B (ad ++ [p]) F (upd H p (k.ho ws)) (s.cs ++ [.tr (.nd k p ls)]) := by
    refine ⟨nodup_cnt.mpr fun b => ?_, fun b hb i hi => ?_, fun b hb => ?_, fun b hb => ?_, r.inn.old⟩
    · rw [hads, List.count_append, List.count_cons]
      have := L.cnt b
      by_cases e : p = b
      · subst e
        have h1 := List.count_eq_zero.mpr f4
        have h2 := List.count_eq_zero.mpr f5
        simp [h1, h2]
      · simp [e]; omega
    · by_cases hil : i < ad.length
      · rw [List.getElem?_append_left hil] at hi
        rw [List.getElem?_append_left (by omega)]
        rcases memN b hb with rfl | hb | hb
        · exact absurd (List.mem_of_getElem? hi) f3
        · exact r.inn.off b hb i hi
        · exact .inl (L.off b hb i hi)
      · have hi2 : i = ad.length := by
          have := (List.getElem?_eq_some_iff.mp hi).1
          simp at this; omega
        subst hi2
        rw [List.getElem?_append_right (Nat.le_refl _)] at hi
        have e : b = p := by have := List.mem_of_getElem? hi; simpa using this
        subst e
        exact .inr ⟨.nd k b ls, by rw [hlen, List.getElem?_append_right (Nat.le_refl _)]; simp, rfl⟩
    · by_cases e : b = p
      · subst e; exact ⟨hFp, ne_none upd_same⟩
      · have : F b = none ∧ H b ≠ none := (memN b hb).elim (fun z => absurd z e) fun h => h.elim (r.inn.fr b) (L.fr b)
        exact ⟨this.1, by rw [up b e]; exact this.2⟩
    · rcases memN b hb with rfl | hb | hb
      · exact .inr (.inr f1)
      · exact r.inn.own b hb
      · exact L.own b hb
  refine ⟨r.ff, same_mut r.fh hFp, fun b u hb ht e => ?_, fun b hb => ?_, r.new, ?_, ?_, by show (ad ++ [p]).length = (s.cs ++ [_]).length; simp [hlen], fun i b c h1 h2 => ?_, r.sln, fun k x hx => ?_, inn⟩
  · rw [up b (ne_of_none e f1)]; exact r.hh b u hb ht e
  · rw [up b (fun z => r.al b hb (z ▸ hp))]; exact r.al b hb
  · obtain ⟨ad', e, h1⟩ := r.pre
    refine ⟨ad' ++ [p], by rw [e]; simp, fun b hb => ?_⟩
    rcases List.mem_append.mp hb with hb | hb
    · exact h1 b hb
    · rw [List.mem_singleton] at hb; subst hb; exact f1
  · rw [List.nodup_append]
    exact ⟨r.nd, List.nodup_cons.mpr ⟨(fun z => nomatch z), List.nodup_nil⟩, fun b hb q hq e => by
      rw [List.mem_singleton] at hq; subst hq; subst e; exact f3 hb⟩
  · by_cases hi : i < ad.length
    · rw [List.getElem?_append_left hi] at h1
      have h2 : (s.cs ++ [Cell.tr (.nd k p ls)])[i]? = some c := h2
      rw [List.getElem?_append_left (by omega)] at h2
      obtain ⟨n0, l, ok⟩ := r.cel i b c h1 h2
      have hb : b ≠ p := fun z => by subst z; exact n0 hp
      exact ⟨by rw [up b hb]; exact n0, l, ok.mono ⟨[p], rfl⟩ (Same.refl _) (fun o' e => by rw [up b hb]; exact e) fun b' hb' o ho => by rw [up b' (fun z => f4 (z ▸ mem_ads h2 hb'))]; exact ho⟩
    · have hi2 : i = ad.length := by
        have := (List.getElem?_eq_some_iff.mp h1).1
        simp at this; omega
      subst hi2
      rw [List.getElem?_append_right (Nat.le_refl _)] at h1
      have h2 : (s.cs ++ [Cell.tr (.nd k p ls)])[ad.length]? = some c := h2
      rw [List.getElem?_append_right (by omega)] at h2
      have e1 : p = b := by simpa using h1
      have e2 : Cell.tr (.nd k p ls) = c := by simpa [hlen] using h2
      subst e1; subst e2
      refine ⟨ne_none upd_same, (fun z => nomatch z), rfl, TrOk.of upd_same (side_upd hs (by rw [hm]; exact fun z => nomatch z)) (hw.mono (Same.refl _) fun b hb o ho => ?_)⟩
      rw [up b (fun z => f5 (z ▸ hb))]; exact ho
  · obtain ⟨v, h1, h2⟩ := r.slt k x hx
    exact ⟨v, h1, h2.mono ⟨[p], rfl⟩ (Same.refl _)⟩
end
end Kr
/-! layer A19 -/
namespace Kr
open PySem L2
/-! ## cells that go into trees -/
def grabC (f : Nat → Addr) (cs : List Cell) (j : Nat) : Cell → Option (Tr × List Cell)
  | .tr t => some (t, cs.set j .gone)
  | .lst ds => some (.nd .lst (f j) (ds.map .d), cs.set j .gone)
  | .dK kvs => some (.nd (.dct (kvs.map (·.1))) (f j) (kvs.map fun p => .d p.2), cs.set j .gone)
  | .fz x => some (.d x, cs)
  | _ => none
def grab (f : Nat → Addr) (cs : List Cell) : AVal → Option (Tr × List Cell)
  | .d x => some (.d x, cs)
  | .r j => (cs[j]?).bind (grabC f cs j)
  | _ => none
def grabs (f : Nat → Addr) : List Cell → List AVal → Option (List Tr × List Cell)
  | cs, [] => some ([], cs)
  | cs, x :: xs => (grab f cs x).bind fun r => (grabs f r.2 xs).map fun q => (r.1 :: q.1, q.2)
def AdF (ad : List Addr) (f : Nat → Addr) : Prop := ∀ (i : Nat) p, ad[i]? = some p → f i = p
theorem adF (ad : List Addr) : AdF ad (fun i => (ad[i]?).getD 0) := fun i p h => by show (ad[i]?).getD 0 = p; rw [h]; rfl
section
variable {B : Bs} {ad : List Addr} {F H : Hp} {s : AS} {σ : St} {x : AVal} {v : V} {n j : Nat} {pt : List Nat} {k k' : Kd} {q p : Addr} {xs ys ls ts : List Tr} {t : Tr} {vs ws : List V} {cs cs2 : List Cell} {c : Cell} {f : Nat → Addr} {sl : List (Option AVal)}
theorem Rl.dropC (r : Rl B ad F H ⟨sl, cs⟩ σ) (j : Nat) : Rl B ad F H ⟨sl, cs.set j .gone⟩ σ := by
  have sub : ∀ b, b ∈ (cs.set j .gone).flatMap Cell.ads → b ∈ cs.flatMap Cell.ads := fun b hb => (flat_set (c := .gone) rfl).subset hb
  refine ⟨r.ff, r.fh, r.hh, r.al, r.new, r.pre, r.nd, by show ad.length = (cs.set j .gone).length; rw [List.length_set]; exact r.len, fun i p c h1 h2 => ?_, r.sln, r.slt, ⟨r.inn.nd.sublist (flat_set rfl), fun b hb i hi => ?_, fun b hb => r.inn.fr b (sub b hb), fun b hb => r.inn.own b (sub b hb), r.inn.old⟩⟩
  · have h2 : (cs.set j .gone)[i]? = some c := h2
    by_cases e : i = j
    · subst e
      have hl : i < cs.length := by
        have := (List.getElem?_eq_some_iff.mp h2).1
        simpa using this
      rw [List.getElem?_set_self hl] at h2
      cases h2
      exact ⟨r.mem (List.mem_of_getElem? h1), (fun z => nomatch z), trivial⟩
    · rw [List.getElem?_set_ne (fun z => e z.symm)] at h2
      exact r.cel i p c h1 h2
  · by_cases e : i = j
    · subst e
      have hl : i < cs.length := by
        have := (List.getElem?_eq_some_iff.mp hi).1
        have := r.len
        simp only at this
        omega
      exact .inl (List.getElem?_set_self hl)
    · rw [List.getElem?_set_ne (fun z => e z.symm)]
      exact r.inn.off b (sub b hb) i hi
theorem gone_set (h : cs[n]? = some .gone) : (cs.set j .gone)[n]? = some .gone := by
  by_cases e : n = j
  · subst e; exact List.getElem?_set_self (List.getElem?_eq_some_iff.mp h).1
  · rw [List.getElem?_set_ne (fun z => e z.symm)]; exact h
theorem trAll_leafs {ds : List PyData} (h : DaAll F ds vs) : TrAll F H (ds.map .d) vs := by
  induction ds generalizing vs with
  | nil => exact h
  | cons d ds ih =>
    obtain ⟨v, r, rfl, h1, h2⟩ := (show ∃ v r, vs = v :: r ∧ Da F d v ∧ DaAll F ds r from h)
    exact ⟨v, r, rfl, h1, ih h2⟩
theorem kv_zip {kvs : List (Key × PyData)} {es : List (Key × V)} (h : KvOk F kvs es) : es = (kvs.map (·.1)).zip (es.map (·.2)) ∧ TrAll F H (kvs.map fun p => .d p.2) (es.map (·.2)) := by
  unfold KvOk at h
  induction h with
  | nil => exact ⟨rfl, rfl⟩
  | cons h t ih =>
    rename_i a b l1 l2
    refine ⟨?_, b.2, l2.map (·.2), rfl, h.2, ih.2⟩
    show b :: l2 = (a.1, b.2) :: (l1.map (·.1)).zip (l2.map (·.2))
    rw [← ih.1, h.1]
theorem grabC_ok (r : Rl B ad F H ⟨sl, cs⟩ σ) (L : Loose B ad F H cs ls) (hf : AdF ad f) (hp : ad[j]? = some p) (hc : cs[j]? = some c) (e : grabC f cs j c = some (t, cs2)) : Rl B ad F H ⟨sl, cs2⟩ σ ∧ Loose B ad F H cs2 (ls ++ [t]) ∧ TrOk F H t (.ref p) := by
  obtain ⟨n0, l, ok⟩ := r.cel j p c hp hc
  have hfj := hf j p hp
  have one : ∀ (k : Kd) (ts : List Tr), Tr.addrsL ts = [] → k.more = [] → c.live = true → t = .nd k (f j) ts → cs2 = cs.set j .gone → TrOk F H t (.ref p) → Rl B ad F H ⟨sl, cs2⟩ σ ∧ Loose B ad F H cs2 (ls ++ [t]) ∧ TrOk F H t (.ref p) := by
    intro k ts h0 hm hl et e2 ht
    subst e2
    have hads : t.addrs = [p] := by
      subst et
      show f j :: (k.more ++ Tr.addrsL ts) = _
      rw [h0, hm, hfj]; rfl
    have hca : c.ads = [] := live_ads hl
    have hpc : p ∉ cs.flatMap Cell.ads := fun z => by
      rcases r.inn.off p z j hp with e | ⟨t', e, _⟩
      · have e : cs[j]? = some .gone := e
        rw [hc] at e; cases e; cases hl
      · have e : cs[j]? = some (.tr t') := e
        rw [hc] at e; cases e; cases hl
    have hpl : p ∉ Tr.addrsL ls := fun z => by
      have e := L.off p z j hp
      rw [hc] at e; cases e; cases hl
    have hLa : ∀ b, b ∈ Tr.addrsL (ls ++ [t]) → b ∈ Tr.addrsL ls ∨ b = p := fun b hb => by
      have h1 := List.count_pos_iff.mpr hb
      rw [cntL_app, cntL_cons, cntL_nil, hads] at h1
      by_cases h2 : 0 < (Tr.addrsL ls).count b
      · exact .inl (List.count_pos_iff.mp h2)
      · refine .inr ?_
        have : 0 < [p].count b := by omega
        simpa using List.count_pos_iff.mp this
    refine ⟨r.dropC j, ⟨fun b => ?_, fun b hb i hi => ?_, fun b hb => ?_, fun b hb => ?_⟩, ht⟩
    · have h1 := flat_count_set (d := .gone) hc b
      have h2 := L.cnt b
      have h3 : (Cell.gone).ads.count b = 0 := rfl
      rw [hca] at h1
      have h4 : ([] : List Addr).count b = 0 := rfl
      rw [cntL_app, cntL_cons, cntL_nil, hads]
      by_cases e : p = b
      · subst e
        have := List.count_eq_zero.mpr hpc
        have := List.count_eq_zero.mpr hpl
        simp
        omega
      · have : [p].count b = 0 := List.count_eq_zero.mpr (by simpa using fun z => e z.symm)
        omega
    · rcases hLa b hb with hb | hb
      · exact gone_set (L.off b hb i hi)
      · subst hb
        have := nodup_get r.nd hi hp
        subst this
        exact List.getElem?_set_self (List.getElem?_eq_some_iff.mp hc).1
    · rcases hLa b hb with hb | hb
      · exact L.fr b hb
      · subst hb; exact ⟨l hl, n0⟩
    · rcases hLa b hb with hb | hb
      · exact L.own b hb
      · subst hb; exact (r.inS (List.mem_of_getElem? hp)).elim .inl fun z => .inr (.inr z)
  cases c with
  | lst ds =>
    cases e
    obtain ⟨vs, h1, h2⟩ := ok
    exact one .lst _ (addrsL_leafs ds) rfl rfl rfl rfl (by rw [hfj]; exact TrOk.of h1 trivial (trAll_leafs h2))
  | dK kvs =>
    cases e
    obtain ⟨es, h1, h2⟩ := ok
    obtain ⟨z1, z2⟩ := kv_zip (H := H) h2
    have hz : Tr.addrsL (kvs.map fun p => Tr.d p.2) = [] := by
      have := addrsL_leafs (kvs.map (·.2))
      rw [List.map_map] at this
      exact this
    have h1' : H p = some ((Kd.dct (kvs.map (·.1))).ho (es.map (·.2))) := by
      show H p = some (.dK ((kvs.map (·.1)).zip (es.map (·.2))))
      rw [← z1]; exact h1
    exact one (.dct _) _ hz rfl rfl rfl rfl (by rw [hfj]; exact TrOk.of (vs := es.map (·.2)) h1' (by show (kvs.map (·.1)).length = (kvs.map _).length; simp) z2)
  | fz y =>
    cases e
    refine ⟨r, ⟨fun b => ?_, fun b hb => ?_, fun b hb => ?_, fun b hb => ?_⟩, ok⟩
    · rw [cntL_app, cntL_cons, cntL_nil]; have := L.cnt b; have : (Tr.d y).addrs.count b = 0 := rfl; omega
    all_goals
      have hb : b ∈ Tr.addrsL ls := by
        have h1 := List.count_pos_iff.mpr hb
        rw [cntL_app, cntL_cons, cntL_nil] at h1
        have : (Tr.d y).addrs.count b = 0 := rfl
        exact List.count_pos_iff.mp (by omega)
    · exact L.off b hb
    · exact L.fr b hb
    · exact L.own b hb
  | tr t' =>
    cases e
    obtain ⟨hr, ht⟩ := ok
    have hLa : ∀ b, b ∈ Tr.addrsL (ls ++ [t]) → b ∈ Tr.addrsL ls ∨ b ∈ t.addrs := fun b hb => by
      have h1 := List.count_pos_iff.mpr hb
      rw [cntL_app, cntL_cons, cntL_nil] at h1
      by_cases h2 : 0 < (Tr.addrsL ls).count b
      · exact .inl (List.count_pos_iff.mp h2)
      · exact .inr (List.count_pos_iff.mp (by omega))
    refine ⟨r.dropC j, ⟨fun b => ?_, fun b hb i hi => ?_, fun b hb => ?_, fun b hb => ?_⟩, ht⟩
    · have h1 := flat_count_set (d := .gone) hc b
      have h2 := L.cnt b
      have h3 : (Cell.gone).ads.count b = 0 := rfl
      have h4 : (Cell.tr t).ads = t.addrs := rfl
      rw [h4] at h1
      rw [cntL_app, cntL_cons, cntL_nil]
      omega
    · rcases hLa b hb with hb | hb
      · exact gone_set (L.off b hb i hi)
      · rcases r.inn.off b (mem_ads hc hb) i hi with e | ⟨t', e, er⟩
        · exact gone_set e
        · have hm2 : b ∈ (Cell.tr t').ads := by
            cases t' with
            | d _ => cases er
            | nd _ _ _ => cases er; exact List.mem_cons_self ..
          have := (flat_nd.mp r.inn.nd).2 i j _ _ b e hc hm2 hb
          subst this
          exact List.getElem?_set_self (List.getElem?_eq_some_iff.mp hc).1
    · rcases hLa b hb with hb | hb
      · exact L.fr b hb
      · exact r.inn.fr b (mem_ads hc hb)
    · rcases hLa b hb with hb | hb
      · exact L.own b hb
      · exact r.inn.own b (mem_ads hc hb)
  | _ => cases e
theorem grab_ok (r : Rl B ad F H ⟨sl, cs⟩ σ) (L : Loose B ad F H cs ls) (hf : AdF ad f) (hv : VOk ad F x v) (e : grab f cs x = some (t, cs2)) : Rl B ad F H ⟨sl, cs2⟩ σ ∧ Loose B ad F H cs2 (ls ++ [t]) ∧ TrOk F H t v := by
  cases x with
  | s _ _ => cases e
  | a _ _ _ => cases e
  | d y =>
    cases e
    refine ⟨r, ⟨fun b => ?_, fun b hb => ?_, fun b hb => ?_, fun b hb => ?_⟩, hv⟩
    · rw [cntL_app, cntL_cons, cntL_nil]; have := L.cnt b; have : (Tr.d y).addrs.count b = 0 := rfl; omega
    all_goals
      have hb : b ∈ Tr.addrsL ls := by
        have h1 := List.count_pos_iff.mpr hb
        rw [cntL_app, cntL_cons, cntL_nil] at h1
        have : (Tr.d y).addrs.count b = 0 := rfl
        exact List.count_pos_iff.mp (by omega)
    · exact L.off b hb
    · exact L.fr b hb
    · exact L.own b hb
  | r m =>
    obtain ⟨p, hp, rfl⟩ := hv
    have e' : (cs[m]?).bind (grabC f cs m) = some (t, cs2) := e
    cases hc : cs[m]? with
    | none => rw [hc] at e'; cases e'
    | some c => rw [hc] at e'; exact grabC_ok r L hf hp hc e'
theorem grabs_ok (hf : AdF ad f) : ∀ {xs : List AVal} {vs : List V} {cs cs2 : List Cell} {ls ts : List Tr}, Rl B ad F H ⟨sl, cs⟩ σ → Loose B ad F H cs ls → Paired (VOk ad F) xs vs → grabs f cs xs = some (ts, cs2) → Rl B ad F H ⟨sl, cs2⟩ σ ∧ Loose B ad F H cs2 (ls ++ ts) ∧ TrAll F H ts vs
  | [], _, cs, cs2, ls, ts, r, L, .nil, e => by cases e; rw [List.append_nil]; exact ⟨r, L, rfl⟩
  | x :: xs, _, cs, cs2, ls, ts, r, L, .cons h t, e => by
    have e' : (grab f cs x).bind (fun r => (grabs f r.2 xs).map fun q => (r.1 :: q.1, q.2)) = some (ts, cs2) := e
    cases hg : grab f cs x with
    | none => rw [hg] at e'; cases e'
    | some g =>
      obtain ⟨u, cs1⟩ := g
      rw [hg] at e'
      cases hq : grabs f cs1 xs with
      | none =>
        have e'' : (grabs f cs1 xs).map (fun q => (u :: q.1, q.2)) = some (ts, cs2) := e'
        rw [hq] at e''; cases e''
      | some g2 =>
        obtain ⟨us, cs3⟩ := g2
        have e'' : (grabs f cs1 xs).map (fun q => (u :: q.1, q.2)) = some (ts, cs2) := e'
        rw [hq] at e''
        cases e''
        obtain ⟨r1, L1, t1⟩ := grab_ok r L hf h hg
        obtain ⟨r2, L2, t2⟩ := grabs_ok hf r1 L1 t hq
        rw [List.append_assoc] at L2
        exact ⟨r2, L2, _, _, rfl, t1, t2⟩
/-! ## slots that spoke of such a cell -/
def Cell.isGone : Cell → Bool
  | .gone => true
  | _ => false
def mvA (f : Nat → Addr) (cs : List Cell) (j n : Nat) (pt : List Nat) : AVal → AVal
  | .r i => if i = j ∧ (cs[j]?).map Cell.isGone = some true then .a (f j) n pt else .r i
  | .a p i pt' => if i = j ∧ (cs[j]?).map Cell.isGone = some true then .a p n (pt' ++ pt) else .a p i pt'
  | x => x
def mvS (f : Nat → Addr) (cs : List Cell) (n : Nat) (pt : List Nat) (x : AVal) (sl : List (Option AVal)) : List (Option AVal) := match x with
  | .r j => sl.map (Option.map (mvA f cs j n pt))
  | _ => sl
def mvL (f : Nat → Addr) (cs : List Cell) (n : Nat) : Nat → List AVal → List (Option AVal) → List (Option AVal)
  | _, [], sl => sl
  | i, x :: xs, sl => mvL f cs n (i + 1) xs (mvS f cs n [i] x sl)
theorem mvA_ok {ccs : List Cell} (hf : AdF ad f) {y : AVal} (h : VOk ad F y v) : VOk ad F (mvA f ccs j n pt y) v := by
  cases y with
  | d _ => exact h
  | s _ _ => exact h
  | a p i pt' =>
    show VOk ad F (if i = j ∧ _ then .a p n (pt' ++ pt) else .a p i pt') v
    split
    · exact h
    · exact h
  | r i =>
    show VOk ad F (if i = j ∧ _ then .a (f j) n pt else .r i) v
    split
    · rename_i e
      obtain ⟨p, hp, rfl⟩ := h
      show V.ref p = .ref (f j)
      rw [← e.1, hf i p hp]
    · exact h
theorem Rl.mvS {ccs : List Cell} (hf : AdF ad f) (r : Rl B ad F H ⟨sl, cs⟩ σ) (x : AVal) : Rl B ad F H ⟨mvS f ccs n pt x sl, cs⟩ σ := by
  unfold Kr.mvS
  split
  · rename_i j
    refine ⟨r.ff, r.fh, r.hh, r.al, r.new, r.pre, r.nd, r.len, r.cel, by rw [List.length_map]; exact r.sln, fun k y hy => ?_, r.inn⟩
    have hy : (sl.map (Option.map (mvA f ccs j n pt)))[k]? = some (some y) := hy
    rw [List.getElem?_map] at hy
    cases h : sl[k]? with
    | none => rw [h] at hy; cases hy
    | some o =>
      rw [h] at hy
      cases o with
      | none => cases hy
      | some z =>
        cases hy
        obtain ⟨v, h1, h2⟩ := r.slt k z h
        exact ⟨v, h1, mvA_ok hf h2⟩
  · exact r
end
/-! ## displays -/
def dspT (k : Kd) (tl : TLA) : TEA := fun s Q => tl s fun xs s1 => xs.length ≤ sizeLine ∧ ∀ f : Nat → Addr, onSome (grabs f s1.cs xs) fun r => Q (.r s1.cs.length) ⟨mvL f r.2 s1.cs.length 0 xs s1.sl, r.2 ++ [.tr (.nd k (f s1.cs.length) r.1)]⟩
section
variable {X : Cx} {B : Bs} {ad : List Addr} {F H : Hp} {s : AS} {σ : St} {x y : AVal} {u v : V} {a b c e o : Expr} {es : List Expr} {pos p2 : Pos} {ta tb tc : TEA} {tl : TLA}
theorem AdF.of_snoc {ad : List Addr} {p : Addr} {f : Nat → Addr} (h : AdF (ad ++ [p]) f) : AdF ad f ∧ f ad.length = p := ⟨fun i q hi => h i q (by rw [List.getElem?_append_left (List.getElem?_eq_some_iff.mp hi).1]; exact hi), h _ _ (by simp)⟩
/-! ## a list cell seen as a tree -/
def asTC (f : Nat → Addr) (cs : List Cell) (n : Nat) : Cell → List Cell
  | .lst ds => cs.set n (.tr (.nd .lst (f n) (ds.map .d)))
  | _ => cs
def asT (f : Nat → Addr) (cs : List Cell) : AVal → List Cell
  | .r n => ((cs[n]?).map (asTC f cs n)).getD cs
  | _ => cs
theorem Rl.asT {f : Nat → Addr} {cs : List Cell} {sl : List (Option AVal)} (r : Rl B ad F H ⟨sl, cs⟩ σ) (hf : AdF ad f) (x : AVal) : Rl B ad F H ⟨sl, asT f cs x⟩ σ := by
  cases x with
  | d _ => exact r
  | s _ _ => exact r
  | a _ _ _ => exact r
  | r n =>
    show Rl B ad F H ⟨sl, ((cs[n]?).map (asTC f cs n)).getD cs⟩ σ
    cases hc : cs[n]? with
    | none => exact r
    | some c =>
      cases c with
      | lst ds =>
        have hnl := (List.getElem?_eq_some_iff.mp hc).1
        have hal : n < ad.length := by have := r.len; simp only at this; omega
        have hp : ad[n]? = some ad[n] := List.getElem?_eq_getElem hal
        generalize ad[n] = p at hp
        obtain ⟨n0, l, vs, h1, h2⟩ := r.cel n p _ hp hc
        have hfn := hf n p hp
        have hads : (Tr.nd .lst (f n) (ds.map .d)).addrs = [p] := by
          show f n :: ([] ++ Tr.addrsL (ds.map .d)) = _
          rw [addrsL_leafs, hfn]; rfl
        show Rl B ad F H ⟨sl, cs.set n (.tr (.nd .lst (f n) (ds.map .d)))⟩ σ
        have hpc : p ∉ cs.flatMap Cell.ads := fun z => by
          rcases r.inn.off p z n hp with e | ⟨t', e, _⟩
          · have e : cs[n]? = some .gone := e
            rw [hc] at e; cases e
          · have e : cs[n]? = some (.tr t') := e
            rw [hc] at e; cases e
        have cnt : ∀ b, ((cs.set n (.tr (.nd .lst (f n) (ds.map .d)))).flatMap Cell.ads).count b = (cs.flatMap Cell.ads).count b + [p].count b := fun b => by
          have h := flat_count_set (d := .tr (.nd .lst (f n) (ds.map .d))) hc b
          have h3 : (Cell.tr (.nd .lst (f n) (ds.map .d))).ads = [p] := hads
          have h4 : (Cell.lst ds).ads.count b = 0 := rfl
          rw [h3, h4] at h
          omega
        have mem : ∀ b, b ∈ (cs.set n (.tr (.nd .lst (f n) (ds.map .d)))).flatMap Cell.ads → b ∈ cs.flatMap Cell.ads ∨ b = p := fun b hb => by
          have h := List.count_pos_iff.mpr hb
          rw [cnt] at h
          by_cases h2 : 0 < (cs.flatMap Cell.ads).count b
          · exact .inl (List.count_pos_iff.mp h2)
          · have : 0 < [p].count b := by omega
            exact .inr (by simpa using List.count_pos_iff.mp this)
        refine ⟨r.ff, r.fh, r.hh, r.al, r.new, r.pre, r.nd, by show ad.length = (cs.set n _).length; rw [List.length_set]; exact r.len, fun i b c h3 h4 => ?_, r.sln, r.slt, ⟨nodup_cnt.mpr fun b => ?_, fun b hb i hi => ?_, fun b hb => ?_, fun b hb => ?_, r.inn.old⟩⟩
        · have h4 : (cs.set n (.tr (.nd .lst (f n) (ds.map .d))))[i]? = some c := h4
          by_cases e : i = n
          · subst e
            rw [List.getElem?_set_self hnl] at h4
            cases h4
            rw [hp] at h3
            cases h3
            exact ⟨n0, (fun z => nomatch z), congrArg some hfn, by rw [hfn]; exact TrOk.of h1 trivial (trAll_leafs h2)⟩
          · rw [List.getElem?_set_ne (fun z => e z.symm)] at h4
            exact r.cel i b c h3 h4
        · rw [cnt]
          have := nodup_cnt.mp r.inn.nd b
          simp only at this
          by_cases e : p = b
          · subst e
            have := List.count_eq_zero.mpr hpc
            simp
            omega
          · have : [p].count b = 0 := List.count_eq_zero.mpr (by simpa using fun z => e z.symm)
            omega
        · by_cases e : i = n
          · subst e
            rw [hp] at hi
            cases hi
            exact .inr ⟨_, List.getElem?_set_self hnl, congrArg some hfn⟩
          · rw [List.getElem?_set_ne (fun z => e z.symm)]
            rcases mem b hb with hb | hb
            · exact r.inn.off b hb i hi
            · subst hb
              exact absurd (nodup_get r.nd hi hp) e
        · rcases mem b hb with hb | hb
          · exact r.inn.fr b hb
          · subst hb; exact ⟨l rfl, n0⟩
        · rcases mem b hb with hb | hb
          · exact r.inn.own b hb
          · subst hb; exact (r.inS (List.mem_of_getElem? hp)).elim .inl fun z => .inr (.inr z)
      | _ => exact r
/-! ## lists in trees change -/
def treeC : Cell → Option Tr
  | .tr t => some t
  | _ => none
def treeAt (cs : List Cell) (n : Nat) : Option Tr := (cs[n]?).bind treeC
theorem treeAt_of {cs : List Cell} {n : Nat} {t : Tr} (h : cs[n]? = some (.tr t)) : treeAt cs n = some t := by unfold treeAt; rw [h]; rfl
/-- a list node of a tree -/
def onT (s : AS) (x : AVal) (k : Nat → List Nat → Addr → List Tr → Tr → Prop) : Prop := onSome (nodeAt s x) fun N => N.2.2.1 = .lst ∧ onSome (treeAt s.cs N.1) fun t => k N.1 N.2.1 N.2.2.2.1 N.2.2.2.2 t
theorem onT_ok {k : Nat → List Nat → Addr → List Tr → Tr → Prop} (r : Rl B ad F H s σ) (hx : VOk ad F x u) (h : onT s x k) : ∃ n pt q ts t p vs, NodeAt ad F H s u n pt .lst q ts t p vs ∧ k n pt q ts t := by
  obtain ⟨⟨n, pt, kd, q, ts⟩, hn, hk, t, ht, h⟩ := h
  have hk : kd = .lst := hk
  subst hk
  obtain ⟨t', p, vs, N⟩ := nodeAt_ok r hx hn
  have : t' = t := by
    have := treeAt_of N.cell
    rw [show treeAt s.cs n = some t from ht] at this
    exact (Option.some.inj this).symm
  subst this
  exact ⟨n, pt, q, ts, t', p, vs, N, h⟩
def putT (s : AS) (n : Nat) (pt : List Nat) (q : Addr) (t : Tr) (ys : List Tr) : AS := ⟨s.sl, s.cs.set n (.tr (t.put pt (.nd .lst q ys)))⟩
theorem Post.putT {Q : VQ} {d : PyData} {n : Nat} {pt : List Nat} {q p : Addr} {ts ys ls : List Tr} {t : Tr} {vs ws : List V} (r : Rl B ad F H s σ) (L : Loose B ad F H s.cs ls) (N : NodeAt ad F H s u n pt .lst q ts t p vs) (hc : ∀ b, (Tr.addrsL ys).count b ≤ (Tr.addrsL ts).count b + (Tr.addrsL ls).count b) (hw : TrAll F H ys ws) (hv : Da F d v) (h : Q (.d d) (putT s n pt q t ys)) : Post B ad F σ Q v (upd H q (.lst ws)) :=
  ⟨ad, F, .d d, _, Ext.refl _, Same.refl _, r.mutT (k' := .lst) L N rfl hc hw trivial, hv, h⟩
theorem TrAll.append {F H : Hp} : ∀ {ts us : List Tr} {vs ws : List V}, TrAll F H ts vs → TrAll F H us ws → TrAll F H (ts ++ us) (vs ++ ws)
  | [], _, _, _, h, h' => by obtain rfl := (show _ = [] from h); exact h'
  | t :: ts, us, vs, ws, h, h' => by
    obtain ⟨v, r, rfl, h1, h2⟩ := (show ∃ v r, vs = v :: r ∧ TrOk F H t v ∧ TrAll F H ts r from h)
    exact ⟨v, r ++ ws, rfl, h1, TrAll.append h2 h'⟩
def appendT (x : AVal) (xs : List AVal) : TEA := fun s Q => one (fun y => ∀ f : Nat → Addr, onSome (grab f (asT f s.cs x) y) fun r => onT ⟨s.sl, r.2⟩ x fun n pt q ts t => ts.length < sizeLine ∧ Q (.d .none) (putT ⟨mvS f r.2 n (ts.length :: pt) y s.sl, r.2⟩ n pt q t (ts ++ [r.1]))) xs
theorem m_appendT : MtA X B "list.append" appendT := fun ad F H s σ x xs u us Q r hx hp t => by
  obtain ⟨y, w, rfl, rfl, hy, t⟩ := one_ok t hp
  have hf := adF ad
  obtain ⟨⟨tr, cs2⟩, hg, t⟩ := t _
  have r0 := r.asT hf x
  obtain ⟨r1, L1, t1⟩ := grab_ok r0 (Loose.nil r0) hf hy hg
  obtain ⟨n, pt, q, ts, t0, p, vs, N, hz, qq⟩ := onT_ok r1 hx t
  have r2 := r1.mvS (ccs := cs2) (n := n) (pt := ts.length :: pt) hf y
  have hval := N.val
  subst hval
  have N2 : NodeAt ad F H ⟨mvS (fun i => (ad[i]?).getD 0) cs2 n (ts.length :: pt) y s.sl, cs2⟩ (.ref q) n pt .lst q ts t0 p vs := ⟨N.cell, N.root, N.here, rfl, N.ho, N.side, N.kids, N.tree⟩
  refine ⟨_, mt_append, q, vs, w, rfl, rfl, N.ho, by rw [N.kids.length]; exact hz, Post.putT (d := .none) r2 L1 N2 (fun b => ?_) (N.kids.append (us := [tr]) (ws := [w]) (show ∃ v r, [w] = v :: r ∧ TrOk F H tr v ∧ TrAll F H [] r from ⟨w, [], rfl, t1, rfl⟩)) rfl qq⟩
  rw [cntL_app, List.nil_append]
  exact Nat.le_refl _
def clearT (x : AVal) (xs : List AVal) : TEA := fun s Q => onT s x fun n pt q ts t => Q (.d .none) (putT s n pt q t [])
def extendT (x : AVal) (xs : List AVal) : TEA := fun s Q => one (fun y => onT s x fun n pt q ts t => onSome (listOf s y) fun es => ts.length + es.length ≤ sizeLine ∧ Q (.d .none) (putT s n pt q t (ts ++ es.map .d))) xs
/-! ## x[i] = v -/
def putLC (D : DA) (s : AS) (n : Nat) (i : Int) (d : PyData) : Cell → Prop
  | .lst ds => onSome (ixN ds.length i) fun j => D.nx ⟨s.sl, s.cs.set n (.lst (ds.set j d))⟩
  | .tr (.nd .lst q ts) => onSome (ixN ts.length i) fun j => D.nx (putT s n [] q (.nd .lst q ts) (ts.set j (.d d)))
  | _ => False
def putLV (D : DA) (s : AS) (i : Int) (d : PyData) : AVal → Prop
  | .r n => onSome s.cs[n]? (putLC D s n i d)
  | .a p n pt => onT s (.a p n pt) fun n pt q ts t => onSome (ixN ts.length i) fun j => D.nx (putT s n pt q t (ts.set j (.d d)))
  | _ => False
def putL (tv to ti : TEA) : TSA := fun D s => tv s fun v s1 => to s1 fun x s2 => ti s2 fun y s3 => onSome y.int? fun i => onSome v.data? fun d => putLV D s3 i d x
end
section
variable {f : Nat → Addr} {cs : List Cell} {j n i : Nat} {pt : List Nat} {p : Addr} {K : PySem.W.Frag} {ns : List Int} {d : PyData} {sl : List (Option AVal)}
theorem mvA_r : mvA f cs j n pt (.r i) = if i = j ∧ (cs[j]?).map Cell.isGone = some true then .a (f j) n pt else .r i := rfl
theorem mvA_a {pt' : List Nat} : mvA f cs j n pt (.a p i pt') = if i = j ∧ (cs[j]?).map Cell.isGone = some true then .a p n (pt' ++ pt) else .a p i pt' := rfl
theorem mvA_d : mvA f cs j n pt (.d d) = .d d := rfl
theorem mvA_s : mvA f cs j n pt (.s K ns) = .s K ns := rfl
theorem mvS_r : mvS f cs n pt (.r j) sl = sl.map (Option.map (mvA f cs j n pt)) := rfl
theorem mvS_d : mvS f cs n pt (.d d) sl = sl := rfl
theorem mvS_a {m : Nat} {pt' : List Nat} : mvS f cs n pt (.a p m pt') sl = sl := rfl
theorem gone_gone : Cell.isGone .gone = true := rfl
theorem gone_fz : Cell.isGone (.fz d) = false := rfl
theorem gone_tr {t : Tr} : Cell.isGone (.tr t) = false := rfl
theorem gone_lst {ds : List PyData} : Cell.isGone (.lst ds) = false := rfl
theorem at_nil {t : Tr} : t.at [] = some t := rfl
theorem at_cons {t : Tr} : t.at (i :: pt) = match t.at pt with | some (.nd _ _ xs) => xs[i]? | _ => none := rfl
theorem put_nil {t u : Tr} : t.put [] u = u := rfl
theorem put_cons {t u : Tr} : t.put (i :: pt) u = match t.at pt with | some (.nd k a xs) => t.put pt (.nd k a (xs.set i u)) | _ => t := rfl
end
end Kr
/-! layer A20 -/
namespace Kr
open PySem L2
/-! ## a tree is told for good -/
theorem kv_zipD {F : Hp} : ∀ {ks : List Key} {ds : List PyData} {vs : List V}, DaAll F ds vs → KvOk F (ks.zip ds) (ks.zip vs)
  | [], _, _, _ => .nil
  | k :: ks, [], vs, h => by obtain rfl := (show vs = [] from h); exact .nil
  | k :: ks, d :: ds, vs, h => by
    obtain ⟨v, r, rfl, h1, h2⟩ := (show ∃ v r, vs = v :: r ∧ Da F d v ∧ DaAll F ds r from h)
    exact .cons ⟨rfl, h1⟩ (kv_zipD h2)
mutual
theorem TrOk.da {F H F2 : Hp} (s : Same F F2) : ∀ {t : Tr} {v : V} {d : PyData}, TrOk F H t v → (∀ b ∈ t.addrs, F2 b = H b) → t.data? = some d → Da F2 d v
  | .d x, v, d, h, _, e => by cases e; exact Da.mono s h
  | .nd k a xs, v, d, h, hb, e => by
    obtain ⟨h0, vs, h1, _, h3⟩ := h.node
    subst h0
    have hb' : ∀ b ∈ a :: (k.more ++ Tr.addrsL xs), F2 b = H b := hb
    have ha := hb' a (List.mem_cons_self ..)
    have hk : ∀ b ∈ Tr.addrsL xs, F2 b = H b := fun b z => hb' b (List.mem_cons_of_mem _ (List.mem_append_right _ z))
    cases k with
    | lst =>
      have e' : (Tr.datas? xs).map PyData.list = some d := e
      cases hd : Tr.datas? xs with
      | none => rw [hd] at e'; cases e'
      | some ds => rw [hd] at e'; cases e'; exact ⟨a, vs, rfl, ha.trans h1, TrAll.da s h3 hk hd⟩
    | tup =>
      have e' : (Tr.datas? xs).map PyData.tuple = some d := e
      cases hd : Tr.datas? xs with
      | none => rw [hd] at e'; cases e'
      | some ds => rw [hd] at e'; cases e'; exact ⟨a, vs, rfl, ha.trans h1, TrAll.da s h3 hk hd⟩
    | dct ks =>
      have e' : (Tr.datas? xs).map (fun ds => dictD (ks.zip ds)) = some d := e
      cases hd : Tr.datas? xs with
      | none => rw [hd] at e'; cases e'
      | some ds => rw [hd] at e'; cases e'; exact Da.ofDict (es := ks.zip vs) (.inl (ha.trans h1)) (daKV_of (kv_zipD (TrAll.da s h3 hk hd)))
    | dctT _ => cases e
    | obj _ _ _ => cases e
theorem TrAll.da {F H F2 : Hp} (s : Same F F2) : ∀ {ts : List Tr} {vs : List V} {ds : List PyData}, TrAll F H ts vs → (∀ b ∈ Tr.addrsL ts, F2 b = H b) → Tr.datas? ts = some ds → DaAll F2 ds vs
  | [], vs, ds, h, _, e => by cases e; exact h
  | t :: ts, vs, ds, h, hb, e => by
    obtain ⟨v, r, rfl, h1, h2⟩ := (show ∃ v r, vs = v :: r ∧ TrOk F H t v ∧ TrAll F H ts r from h)
    have hb' : ∀ b ∈ t.addrs ++ Tr.addrsL ts, F2 b = H b := hb
    unfold Tr.datas? at e
    split at e
    · rename_i y ys h3 h4
      cases e
      exact daAll_cons (TrOk.da s h1 (fun b z => hb' b (List.mem_append_left _ z)) h3) (TrAll.da s h2 (fun b z => hb' b (List.mem_append_right _ z)) h4)
    · cases e
end
def Cell.plain : Cell → Bool
  | .gone => false
  | .tr _ => false
  | _ => true
section
variable {X : Cx} {B : Bs} {ad : List Addr} {F H : Hp} {s : AS} {σ : St} {x y : AVal} {u v : V} {a b c e o : Expr} {es : List Expr} {pos p2 : Pos} {ta tb tc : TEA} {tl : TLA}
def fzTC (m n : Nat) (s : AS) (Q : VQ) : Cell → Prop
  | .fz d => Q (.d d) s
  | .lst ds => m ≤ n ∧ Q (.d (.list ds)) ⟨s.sl, s.cs.set n (.fz (.list ds))⟩
  | .dK ds => m ≤ n ∧ Q (.d (dictD ds)) ⟨s.sl, s.cs.set n (.fz (dictD ds))⟩
  | .tr t => (m ≤ n ∧ (s.cs.take m).all Cell.plain = true) ∧ onSome t.data? fun d => Q (.d d) ⟨s.sl, s.cs.set n (.fz d)⟩
  | _ => False
def fzTV (m : Nat) (s : AS) (Q : VQ) : AVal → Prop
  | .d x => Q (.d x) s
  | .r n => onSome s.cs[n]? (fzTC m n s Q)
  | _ => False
def fzT (m k : Nat) : TEA := fun s Q => onSome (s.sl[k]?.bind id) (fzTV m s Q)
/-! ## a def to which no trees are handed -/
def bodyT0 (k : Nat) (t : Nat → TSA) : SpT := fun xs cs P => cs.flatMap Cell.ads = [] ∧ t cs.length (retD cs.length P) ⟨xs.map some ++ List.replicate k none, cs⟩
end
section
variable {X : Cx} {B : Bs} {ad : List Addr} {F H : Hp} {s : AS} {σ : St} {x y : AVal} {u v : V} {a b c e o : Expr} {es : List Expr} {pos p p2 : Pos} {ta tb tc : TEA} {tl : TLA} {k n : Nat} {f : Addr} {fd : FuncData} {ps : List Str} {t : SpT}
/-! ## a, b = f(..): the tuple told is taken apart -/
def two2 (g1 g2 : TGA) : List AVal → AS → (AS → Prop) → Prop := fun xs s Q => match xs with
  | [x, y] => g1 x s fun s1 => g2 y s1 Q
  | _ => False
/-! ## further list words -/
def insertA (x : AVal) (xs : List AVal) : TEA := fun s Q => two (fun y z => onLst s x fun n ds => onSome y.int? fun i => onSome z.data? fun d => (ds.length < sizeLine ∧ 0 ≤ i ∧ i < 2 ^ 63) ∧ Q (.d .none) ⟨s.sl, s.cs.set n (.lst (ds.take i.toNat ++ [d] ++ ds.drop i.toNat))⟩) xs
def revN (ta : TEA) : TNA := fun s Q => ta s fun x s1 => onSome (listOf s1 x) fun ds => Q (.lst ds.reverse) s1
theorem DaAll.rev : ∀ {ds : List PyData} {vs : List V}, DaAll F ds vs → DaAll F ds.reverse vs.reverse
  | [], _, h => by obtain rfl := (show _ = [] from h); exact daAll_nil
  | d :: ds, _, h => by
    obtain ⟨v, r, rfl, h1, h2⟩ := (show ∃ v r, _ = v :: r ∧ Da F d v ∧ DaAll F ds r from h)
    rw [List.reverse_cons, List.reverse_cons]
    exact (DaAll.rev h2).snoc h1
theorem en_rev {kk : Nat} {p1 p2 p3 : Pos} (ha : EA X B a ta) : EN X B (.Subscript a (.Slice none none (some (.UnaryOp .USub (.Constant (.int 1) kk p1) p2)) p3) pos) (revN ta) := ⟨fun ad F H s σ Q r t =>
  we_of (pe_revL pe_we) ((ha.run ad F H s σ _ r t).imp fun v H1 q => by
    obtain ⟨ad1, F1, x, s1, e1, k1, r1, hv, ds, hds, q⟩ := q
    obtain ⟨l, vs, rfl, h1, h2⟩ := hv.list r1 hds
    exact ⟨l, vs, rfl, SqL.of h1, fun p hp => (PostN.here (c := .lst ds.reverse) r1 hp ⟨_, upd_same, h2.rev⟩ rfl q).up e1 k1⟩)⟩
/-- list(range(n)) -/
def listR1 (ta : TEA) : TNA := fun s Q => ta s fun x s1 => onSome x.int? fun n => (0 ≤ n ∧ n ≤ 16777216) ∧ Q (.lst (intsD 0 n)) s1
/-- a sign, some times or not at all -/
def repZ (x : Str) (n : Int) : Str := if n < 1 then Str.empty else repS x n
theorem op_repZ : OpR X (binaryOp .Mult) (fun x y H Q => ∃ z n, x = V.str z ∧ y = V.int n ∧ -1000 ≤ n ∧ n ≤ 1000 ∧ z.length = 1 ∧ Q (.str (repZ z n)) H) := by
  intro pins s σ H x y v u Q I rx ry h
  obtain ⟨z, n, rfl, rfl, h0, h2, hz, q⟩ := h
  by_cases h1 : 1 ≤ n
  · refine op_repS pins s σ H _ _ v u Q I rx ry ⟨z, n, rfl, rfl, h1, h2, hz, ?_⟩
    unfold repZ at q
    rw [if_neg (by omega)] at q
    exact q
  · obtain ⟨t, rfl⟩ := rx
    obtain ⟨t', rfl⟩ := ry
    refine PySem.P.mul_str_none (by omega) (by omega) ?_
    unfold repZ at q
    rw [if_pos (by omega)] at q
    exact ⟨.str _, H, I.tok _, ⟨_, rfl⟩, q⟩
def mulX : AVal → AVal → TEA := fun x y s Q => match x with
  | .d (.str z) => onSome y.int? fun n => (-1000 ≤ n ∧ n ≤ 1000 ∧ z.length = 1) ∧ Q (.d (.str (repZ z n))) s
  | x => mulA x y s Q
theorem o_mulX : OpA X B (binaryOp .Mult) mulX := fun ad F H s σ x y u v Q r hx hy t => by
  unfold mulX at t
  split at t
  · rename_i z
    obtain ⟨n, en, ⟨h1, h2, h3⟩, q⟩ := t
    have := AVal.int?_of en
    subst this
    exact ⟨_, op_repZ, z, n, hx, hy, h1, h2, h3, .here (x := .d (.str (repZ z n))) r rfl q⟩
  · exact o_mul ad F H s σ _ y u v Q r hx hy t
theorem mulX_int {i : Int} {s : AS} {Q : VQ} : mulX (.d (.int i)) y s Q = onSome y.int? fun j => CMul i j ∧ Q (.d (.int (i * j))) s := rfl
theorem mulX_str {z : Str} {s : AS} {Q : VQ} : mulX (.d (.str z)) y s Q = onSome y.int? fun n => (-1000 ≤ n ∧ n ≤ 1000 ∧ z.length = 1) ∧ Q (.d (.str (repZ z n))) s := rfl
theorem mulX_lst {ds : List PyData} {s : AS} {Q : VQ} : mulX (.d (.list ds)) y s Q = onSome y.int? fun n => (-(2 ^ 63) ≤ n ∧ n < 2 ^ 63 ∧ ds.length * n.toNat ≤ sizeLine) ∧ Q (.d (.list (repL n ds))) s := mulA_lst
theorem mulX_r {m : Nat} {s : AS} {Q : VQ} : mulX (.r m) y s Q = onSome (listOf s (.r m)) fun ds => onSome y.int? fun n => (-(2 ^ 63) ≤ n ∧ n < 2 ^ 63 ∧ ds.length * n.toNat ≤ sizeLine) ∧ Q (.d (.list (repL n ds))) s := rfl
end
/-! ## statements one behind the other, opened up to a test -/
section
variable {t u : TSA} {D : DA} {s : AS} {te tf tg : TEA} {g : TGA} {k m : Nat}
theorem seq_set : seqA (setA k te) u D s = te s fun x s1 => u D ⟨s1.sl.set k (some x), s1.cs⟩ := rfl
theorem seq_drop : seqA (dropA te) u D s = te s fun _ s1 => u D s1 := rfl
theorem seq_asg : seqA (asgA te g) u D s = te s fun x s1 => g x s1 (u D) := rfl
theorem seq_next : seqA nextA u D s = u D s := rfl
theorem seq_callU {t : SpT} {tl : TLA} {gg : List AVal → AS → (AS → Prop) → Prop} : seqA (callU t tl gg) u D s = tl s fun xs s1 => callW t xs s1 (resU (refsOf xs) fun ys s2 => gg ys s2 (u D)) := rfl
theorem seq_putS : seqA (putS te tf tg) u D s = te s fun v s1 => tf s1 fun x s2 => tg s2 fun y s3 => onDct s3 x fun n ds => onSome y.key? fun k => onSome v.data? fun d => ds.length < sizeLine ∧ u D ⟨s3.sl, s3.cs.set n (.dK (putA ds k d))⟩ := rfl
theorem seq_putL : seqA (putL te tf tg) u D s = te s fun v s1 => tf s1 fun x s2 => tg s2 fun y s3 => onSome y.int? fun i => onSome v.data? fun d => putLV ⟨u D, D.rt, D.bk, D.ct⟩ s3 i d x := rfl
theorem seq_for {ti : AS → (List PyData → AS → Prop) → Prop} : seqA (forA m ti g t) u D s = ti s fun ds s1 => forW m g t ⟨u D, D.rt, D.bk, D.ct⟩ ds s1 := rfl
theorem seq_forD : seqA (forDA m k g t) u D s = onSome (s.sl[k]?.bind id) (forDV m g t ⟨u D, D.rt, D.bk, D.ct⟩ s) := rfl
theorem seq_forH {ti : TIH} : seqA (forHA m ti g t) u D s = forHA m ti g t ⟨u D, D.rt, D.bk, D.ct⟩ s := rfl
theorem seq_aug {gg : Int → Int → Int} : seqA (augS gg te tf tg) u D s = augS gg te tf tg ⟨u D, D.rt, D.bk, D.ct⟩ s := rfl
theorem seq_seq {t' : TSA} : seqA (seqA t t') u D s = seqA t (seqA t' u) D s := rfl
end
/-! ## == [] of a list of trees -/
def emptyC : Cell → Option Bool
  | .lst ds => some ds.isEmpty
  | .fz (.list ds) => some ds.isEmpty
  | .tr (.nd .lst _ ts) => some ts.isEmpty
  | _ => none
def emptyV (s : AS) : AVal → Option Bool
  | .r n => (s.cs[n]?).bind emptyC
  | .d (.list ds) => some ds.isEmpty
  | _ => none
def nilTT (neg : Bool) (ta : TEA) : TTA := fun s Q => ta s fun x s1 => onSome (emptyV s1 x) fun b => Q (b != neg) s1
section
variable {X : Cx} {B : Bs} {ad : List Addr} {F H : Hp} {s : AS} {σ : St} {x y : AVal} {u v : V} {a : Expr} {pos : Pos} {ta : TEA}
theorem emptyV_r {n : Nat} : emptyV s (.r n) = (s.cs[n]?).bind emptyC := rfl
theorem emptyC_l {ds : List PyData} : emptyC (.lst ds) = some ds.isEmpty := rfl
theorem emptyC_t {q : Addr} {ts : List Tr} : emptyC (.tr (.nd .lst q ts)) = some ts.isEmpty := rfl
end
end Kr
/-! layer A21 -/
namespace Kr
open PySem L2
theorem hu65 {k : Nat} {A : Around} (h : Room k A) : A.units + 65 < cLine := by have := h.un; omega
/-! ## is None, is True -/
def noneV : AVal → Option Bool
  | .d .none => some true
  | .d _ => some false
  | .r _ => some false
  | .a _ _ _ => some false
  | .s _ _ => none
def isNT (neg : Bool) : AVal → AVal → TTA := fun x y s Q => y = .d .none ∧ onSome (noneV x) fun b => Q (b != neg) s
def isBT (neg : Bool) : AVal → AVal → TTA := fun x y s Q => onSome x.bool? fun b => onSome y.bool? fun c => Q (decide (b = c) != neg) s
section
variable {X : Cx} {B : Bs} {ad : List Addr} {F H : Hp} {s : AS} {σ : St} {x y : AVal} {u v : V}
theorem noneV_none : noneV (.d .none) = some true := rfl
theorem noneV_list {ds : List PyData} : noneV (.d (.list ds)) = some false := rfl
theorem noneV_r {n : Nat} : noneV (.r n) = some false := rfl
/-! ## in a list of lists -/
def inDT (neg : Bool) : AVal → AVal → TTA := fun x y s Q => onSome (dataOf s x) fun d => onSome (dataOf s y) fun e => match e with
  | .list ds => (SeqAt.shaped d = true ∧ SeqAt.shaped (.list ds) = true) ∧ Q ((ds.any fun z => PyData.eqv z d) != neg) s
  | _ => False
theorem o_notInD (hu : X.A.units + 65 < cLine) : OpT X B (compareOp .NotIn) (inDT true) := fun ad F H s σ x y u v Q r hx hy ⟨d, e1, e, e2, t⟩ => by
  cases e with
  | list ds =>
    obtain ⟨⟨h1, h2⟩, q⟩ := t
    exact ⟨_, _, q, op_notInD hu, fun K k => ⟨d, ds, hx.dp r e1 (SeqAt.canLay_of_shaped h1), hy.dp r e2 (SeqAt.canLay_of_shaped h2), h1, h2, by simpa using k⟩⟩
  | _ => exact t.elim
/-! ## tuples told for good: t + u, t[i:], t[:i] -/
def tupD : AVal → Option (List PyData)
  | .d (.tuple ds) => some ds
  | _ => none
def tcatA : AVal → AVal → TEA := fun x y s Q => onSome (tupD x) fun ds => onSome (tupD y) fun es => ds.length + es.length ≤ sizeLine ∧ Q (.d (.tuple (ds ++ es))) s
def tslA (lo hi : Option Int) (x : AVal) : TEA := fun s Q => onSome (tupD x) fun ds => Q (.d (.tuple (cutD ds lo hi))) s
def tslHi (ta tb : TEA) : TEA := fun s Q => ta s fun x s1 => tb s1 fun y s2 => onSome y.int? fun i => tslA none (some i) x s2 Q
def tslLo (ta tb : TEA) : TEA := fun s Q => ta s fun x s1 => tb s1 fun y s2 => onSome y.int? fun i => tslA (some i) none x s2 Q
theorem tupD_t {ds : List PyData} : tupD (.d (.tuple ds)) = some ds := rfl
end
end Kr
/-! layer A22 -/
namespace Kr
open PySem L2
/-! ## sorted of a list of any data that are alike -/
section
variable {X : Cx} {B : Bs} {ad : List Addr} {F H : Hp} {s : AS} {σ : St} {x y : AVal} {u v : V}
def rSortedD (X : Cx) : List V → Hp → VK → Prop := fun vs H Q => ∃ (a : Addr) (xs : List V) (ds : List PyData) (Rr : V → PyData → Prop), vs = [V.ref a] ∧ SqL X.K H a xs ∧ Paired (fun x d => Rr x d ∧ Dp X.K H x d) xs ds ∧ PySem.W.AllAlike ds ∧ PySem.W.Sortable ds ∧ (∀ d ∈ ds, d.depth ≤ 60) ∧
  ∀ ys p, Paired Rr ys (ds.mergeSort (PySem.W.dataLe false id)) → H p = none → Q (.ref p) (upd H p (.lst ys))
theorem each_vals {Rr : V → PyData → Prop} {pins : List (Addr × Obj)} {s : Shared} {H : Hp} (I : Inv X pins σ H s) : ∀ {xs : List V} {us : List Value} {ds : List PyData}, Vals xs us → Paired (fun x d => Rr x d ∧ Dp X.K H x d) xs ds →
    PySem.W.EachIs (fun u d => ∃ x, RelV x u ∧ Rr x d) us ds ∧ PySem.W.EachIs (fun u d => ∃ as, PySem.Reads s.heap u (id d) as) us ds
  | _, _, _, .nil, .nil => ⟨.nil, .nil⟩
  | _, _, _, .cons rx rv, .cons h t => by
    obtain ⟨h1, h2⟩ := each_vals I rv t
    obtain ⟨as, r1⟩ := Dp.reads I _ _ _ h.2 rx
    exact ⟨.cons ⟨_, rx, h.1⟩ h1, .cons ⟨as, r1⟩ h2⟩
theorem vals_each {Rr : V → PyData → Prop} : ∀ {us : List Value} {ds : List PyData}, PySem.W.EachIs (fun u d => ∃ x, RelV x u ∧ Rr x d) us ds → ∃ ys, Vals ys us ∧ Paired Rr ys ds
  | _, _, .nil => ⟨[], .nil, .nil⟩
  | _, _, .cons h t => by
    obtain ⟨x, h1, h2⟩ := h
    obtain ⟨ys, h3, h4⟩ := vals_each t
    exact ⟨x :: ys, .cons h1 h3, .cons h2 h4⟩
theorem cr_sortedD (hu : X.A.units + 64 < cLine) : CallR X (.builtin "sorted") (rSortedD X) := by
  intro pins s σ H vs us Q I r h
  obtain ⟨a, xs, ds, Rr, rfl, hs, hp, hal, hso, hd, q⟩ := h
  obtain ⟨its, rv, hl, hz⟩ := I.list hs
  rw [Vals.ref1 r]
  obtain ⟨e1, e2⟩ := each_vals I rv hp
  have hln : xs.length = ds.length := Paired.len hp
  refine PySem.W.sorted_data (enc := id) (bs := ds) hl.isList e1 e2 (by rw [List.map_id]; exact hal) (by rw [List.map_id]; exact hso) (by rw [← hln]; exact hz) (fun d hdm => ?_) fun out ho heach => ?_
  · have := hd d hdm
    show X.A.units + 2 + d.depth < cLine
    omega
  · obtain ⟨ys, k1, k2⟩ := vals_each heach
    obtain ⟨ep, he'⟩ := PyProof.Rows.sortedAll_at s.heap its out.toArray
    have hlen : ys.length ≤ sizeLine := by
      rw [k1.length, ho, ← hln]; exact hz
    exact ⟨.ref _, upd H (s.heap.objs.size + 1) (.lst ys), I.laid (t' := s.toks) (fun _ _ => PyProof.Rows.sortedAll_old) (Nat.le_succ _) ⟨hlen, out, ep, k1, he'⟩, rfl, q _ _ k2 (I.hok.fresh (Nat.le_succ _))⟩
def sortedDN (xs : List AVal) : TNA := fun s Q => one (fun x => onSome (listOf s x) fun ds => (PySem.W.AllAlike ds ∧ PySem.W.Sortable ds ∧ ∀ d ∈ ds, d.canLay0 = true ∧ d.depth ≤ 60) ∧ Q (.lst (ds.mergeSort (PySem.W.dataLe false id))) s) xs
theorem daAll_paired : ∀ {ds : List PyData} {vs : List V}, DaAll F ds vs → Paired (fun v d => Da F d v) vs ds
  | [], _, h => by obtain rfl := (show _ = [] from h); exact .nil
  | d :: ds, _, h => by
    obtain ⟨v, r, rfl, h1, h2⟩ := (show ∃ v r, _ = v :: r ∧ Da F d v ∧ DaAll F ds r from h)
    exact .cons h1 (daAll_paired h2)
theorem paired_daAll : ∀ {ds : List PyData} {vs : List V}, Paired (fun v d => Da F d v) vs ds → DaAll F ds vs
  | _, _, .nil => daAll_nil
  | _, _, .cons h t => daAll_cons h (paired_daAll t)
theorem paired_mem {α β : Type} {R : α → β → Prop} : ∀ {xs : List α} {ys : List β}, Paired R xs ys → Paired (fun x y => R x y ∧ y ∈ ys) xs ys
  | _, _, .nil => .nil
  | _, _, .cons h t => .cons ⟨h, List.mem_cons_self ..⟩ (Paired.imp (paired_mem t) fun _ _ k => ⟨k.1, List.mem_cons_of_mem _ k.2⟩)
theorem c_sortedD (hu : X.A.units + 64 < cLine) : CalN X B (.builtin "sorted") sortedDN := fun ad F H s σ xs us Q r hp t => by
  obtain ⟨x, u, rfl, rfl, hx, t⟩ := one_ok t hp
  obtain ⟨ds, e, ⟨h1, h2, h3⟩, q⟩ := t
  obtain ⟨l, vs, rfl, g1, g2⟩ := hx.list r e
  refine ⟨_, cr_sortedD hu, l, vs, ds, fun v d => Da F d v, rfl, SqL.of g1, ?_, h1, h2, fun d hd => (h3 d hd).2, fun ys p hys hn => .here (c := .lst (ds.mergeSort (PySem.W.dataLe false id))) r hn ⟨ys, upd_same, paired_daAll hys⟩ rfl q⟩
  exact Paired.imp (paired_mem (daAll_paired g2)) fun v d k => ⟨k.1, (Da.mono r.fh k.1).dp (h3 d k.2).1⟩
/-! ## list(dict) -/
def listDV (s : AS) (Q : Cell → AS → Prop) : View → Prop
  | .dct kvs => Q (.lst (kvs.map fun kv => keyD kv.1)) s
  | _ => False
def listDN (xs : List AVal) : TNA := fun s Q => one (fun x => listDV s Q (view s x)) xs
theorem listDN_V {Q : Cell → AS → Prop} : listDN [x] s Q = listDV s Q (view s x) := rfl
theorem listDV_dct {Q : Cell → AS → Prop} {kvs : List (Key × AVal)} : listDV s Q (.dct kvs) = Q (.lst (kvs.map fun kv => keyD kv.1)) s := rfl
theorem sortedDN_1 {Q : Cell → AS → Prop} : sortedDN [x] s Q = onSome (listOf s x) fun ds => (PySem.W.AllAlike ds ∧ PySem.W.Sortable ds ∧ ∀ d ∈ ds, d.canLay0 = true ∧ d.depth ≤ 60) ∧ Q (.lst (ds.mergeSort (PySem.W.dataLe false id))) s := rfl
/-! ## a comprehension over a dict that was just made: it stays locked -/
theorem we_lockV {e : Expr} {Q : VK} (h : WE X e σ H fun v H1 => ∃ d u, v = .ref d ∧ H1 d = some u ∧ Mut (some u) ∧ ∀ od, (∀ es, u = .dK es → es.length ≤ sizeLine) → Q v (upd H1 d (.frz od u))) : WE X e σ H Q := fun pins s I => thn (h pins s I) fun u s' ⟨v, H', I', r, d, uo, e, hd, mu, q⟩ => by
  obtain ⟨od, I2⟩ := I'.lock hd mu
  exact ⟨v, _, I2, r, q od fun es ee => by subst ee; exact (I'.hok d _ hd).1⟩
def keysC (m : Nat) (s : AS) (Q : List PyData → (List Cell → Prop) → AS → Prop) (n : Nat) : Cell → Prop
  | .dK kvs => m ≤ n ∧ Q (kvs.map fun kv => keyD kv.1) (fun _ => True) ⟨s.sl, s.cs.set n (.fz (dictD kvs))⟩
  | _ => False
def keysR (m : Nat) (s : AS) (Q : List PyData → (List Cell → Prop) → AS → Prop) : AVal → Prop
  | .r n => onSome s.cs[n]? fun c => keysC m s Q n c
  | _ => False
def iterKC (m : Nat) (ta : TEA) : TIO := fun s Q => ta s fun x s1 => keysR m s1 Q x
theorem io_keysC {tg e : Expr} {ta : TEA} (ha : EA X B e ta) : IO X B tg e (iterKC B.S.length ta) := ⟨fun ad F H s σ Q R r t k =>
  wi_of (pi_keys pe_we) (we_lockV ((ha.run ad F H s σ _ r t).imp fun v H1 q => by
    obtain ⟨ad1, F1, x, s1, e1, k1, r1, hx, q⟩ := q
    cases x with
    | d _ => exact q.elim
    | s _ _ => exact q.elim
    | a _ _ _ => exact q.elim
    | r n =>
      obtain ⟨p, hp, rfl⟩ := hx
      obtain ⟨c, hc, q⟩ := (show onSome s1.cs[n]? fun c => keysC B.S.length s1 Q n c from q)
      cases c with
      | dK kvs =>
        obtain ⟨hn, q⟩ := q
        obtain ⟨n0, l, es, h1, h2⟩ := r1.cel n p _ hp hc
        refine ⟨p, .dK es, rfl, h1, trivial, fun od hz => ⟨p, od, rfl, .inl ⟨es, upd_same, ?_⟩⟩⟩
        have hF := l rfl
        have r2 := r1.put (o := .frz od (.dK es)) (c := .dl od es kvs) hp hc rfl ⟨upd_same, h2⟩
        have hlt := (List.getElem?_eq_some_iff.mp hc).1
        have hc2 : (s1.cs.set n (.dl od es kvs))[n]? = some (.dl od es kvs) := List.getElem?_set_self hlt
        have sF : Same F1 (upd F1 p (.frz od (.dK es))) := same_upd hF
        have hkv : DaKV (upd F1 p (.frz od (.dK es))) (kvs.map fun p => (keyD p.1, p.2)) es := daKV_of (Paired.imp h2 fun _ _ z => ⟨z.1, z.2.mono sF⟩)
        have r3 := r2.freeze (i := n) (p := p) (o := .frz od (.dK es)) (y := dictD kvs) hp hc2 rfl hn upd_same (Da.ofDict (.inr ⟨od, upd_same⟩) hkv)
        have es2 : (s1.cs.set n (.dl od es kvs)).set n (.fz (dictD kvs)) = s1.cs.set n (.fz (dictD kvs)) := List.set_set ..
        have r3' : Rl B ad1 (upd F1 p (.frz od (.dK es))) (upd H1 p (.frz od (.dK es))) ⟨s1.sl, s1.cs.set n (.fz (dictD kvs))⟩ σ := es2 ▸ r3
        have hl : es.length = ((kvs.map fun p => (keyD p.1, p.2)).map (·.1)).length := by rw [List.length_map]; exact daKV_len hkv
        have el : (kvs.map fun p => (keyD p.1, p.2)).map (·.1) = kvs.map fun kv => keyD kv.1 := by rw [List.map_map]; rfl
        refine k (Itk p od es) ad1 _ _ _ _ _ e1 (k1.trans sF) r3' (fun B3 ad3 F3 H3 s3 σ3 _ k3 r3 _ => ?_) ?_ q
        · obtain ⟨w1, w2⟩ := walk_keys (F3 := F3) (r3.fh _ _ (k3 _ _ upd_same)) hl (fun i d k v => daKV_key hkv)
          rw [el] at w1 w2
          refine ⟨fun i d e => ⟨(w1 i d e).1, fun x H4 y => ?_⟩, w2⟩
          obtain ⟨rfl, hd⟩ := (w1 i d e).2 x H4 y
          exact ⟨F3, .refl r3.fh, hd⟩
        · rw [← el, ← hl]
          exact hz es rfl
      | _ => exact q.elim))⟩
theorem iterKC_r {n m : Nat} {Q : List PyData → (List Cell → Prop) → AS → Prop} : keysR m s Q (.r n) = onSome s.cs[n]? fun c => keysC m s Q n c := rfl
theorem keysC_dK {n m : Nat} {kvs : List (Key × PyData)} {Q : List PyData → (List Cell → Prop) → AS → Prop} : keysC m s Q n (.dK kvs) = (m ≤ n ∧ Q (kvs.map fun kv => keyD kv.1) (fun _ => True) ⟨s.sl, s.cs.set n (.fz (dictD kvs))⟩) := rfl
/-! ## text <= text -/
def leST : AVal → AVal → TTA := fun x y s Q => onSome x.str? fun i => onSome y.str? fun j => Q (leS i j) s
/-! ## len(set(texts)) -/
def lenSetA (ta : TEA) : TEA := fun s Q => ta s fun x s1 => onSome (listOf s1 x) fun ds => onSome (strs? ds) fun xs => xs.length ≤ 4000 ∧ Q (.d (.int ((kset xs).length : Int))) s1
end
end Kr
/-! layer A23 -/
namespace Kr
open PySem L2 PySem.Spec PyProof.Rows
/-! ## promises that know that no repr is under way -/
structure FnG (P : Program) (w : World) (K : PySem.W.Frag) (mg : Str → Option Value) (base : Heap) (CX : CXT) (k : Nat) (f : Addr) (fd : FuncData) (ps : List Str) (sp : Sp) : Prop where
  len : ∀ us H Q E, sp us H Q E → us.length = ps.length
  run : ∀ (A : Around) (outer : List Env) (s : Shared) (H : Hp) (args : Args) (us : List Value) (vs : List V) (Q : VK) (E : XK), A.guards = some [] → Room k A → Env0 P w K mg base A outer s H → BindsTo s fd args (ps.zip us) → Vals vs us → sp vs H Q E →
    codeAny (model P w) A (.call (.ref f) args) (CR CX outer P w H s Q E) s
section
variable {P : Program} {w : World} {K : PySem.W.Frag} {mg : Str → Option Value} {base : Heap}
theorem FnG.of {CX : CXT} {k : Nat} {f : Addr} {fd : FuncData} {ps : List Str} {sp : Sp} (h : FnOk P w K mg base CX k f fd ps sp) : FnG P w K mg base CX k f fd ps sp :=
  ⟨h.len, fun A outer s H args us vs Q E _ hr e0 hb hv hs => h.run A outer s H args us vs Q E hr e0 hb hv hs⟩
theorem FnG.mono {CX : CXT} {j k : Nat} {f : Addr} {fd : FuncData} {ps : List Str} {sp : Sp} (h : FnG P w K mg base CX j f fd ps sp) (hjk : j ≤ k) : FnG P w K mg base CX k f fd ps sp :=
  ⟨h.len, fun A outer s H args us vs Q E hg hr e0 hb hv hs => h.run A outer s H args us vs Q E hg (hr.mono hjk) e0 hb hv hs⟩
end
/-! ## repr of data -/
section
variable {P : Program} {w : World} {K : PySem.W.Frag} {mg : Str → Option Value} {base : Heap}
theorem FnG.imp {CX : CXT} {k : Nat} {f : Addr} {fd : FuncData} {ps : List Str} {sp sp' : Sp} (h : FnG P w K mg base CX k f fd ps sp) (q : ∀ us H Q E, sp' us H Q E → sp us H Q E) : FnG P w K mg base CX k f fd ps sp' :=
  ⟨fun us H Q E z => h.len us H Q E (q _ _ _ _ z), fun A outer s H args us vs Q E hg hr e0 hb hv hs => h.run A outer s H args us vs Q E hg hr e0 hb hv (q _ _ _ _ hs)⟩
end
end Kr
/-! layer A24 -/
/-! layer A25 -/
/-! layer A26 -/
namespace Kr
open PySem L2
/-! ## defs that may raise an error of a class of the program's own -/
theorem Fl.un {B : Bs} {F : Hp} {ad2 : List Addr} {F2 H2 : Hp} {s2 : AS} {σ2 : L2.St} (l : Fl B F) (q : Rl (B.fl F) ad2 F2 H2 s2 σ2) : Rl B ad2 F2 H2 s2 σ2 :=
  ⟨l.ff.trans q.ff, q.fh, q.hh, q.al, fun b e n => q.new b (l.new b e n) n, q.pre, q.nd, q.len, q.cel, q.sln, q.slt, ⟨q.inn.nd, q.inn.off, q.inn.fr, q.inn.own, q.inn.old⟩⟩
end Kr
/-! layer A27 -/
namespace Kr
open PySem L2 PySem.Spec
open PyProof.Rows hiding St
/-! ## sorted(d.values()) of texts, dict(d) -/
section
variable {X : Cx} {B : Bs} {ad : List Addr} {F H : Hp} {s : AS} {σ : St} {x y : AVal} {u v : V}
variable {o : Expr} {p pos apos mpos : Pos} {td : TE}
def txtVals : List (Key × AVal) → Option (List Str)
  | [] => some []
  | p :: r => (AVal.str? p.2).bind fun x => (txtVals r).map (x :: ·)
def srtVN (ta : TEA) : TNA := fun s Q => ta s fun x s1 => match view s1 x with
  | .dct kvs => onSome (txtVals kvs) fun ks => ks.length < 64 ∧ Q (.lst ((srt ks).map .str)) s1
  | _ => False
/-! dict(d) -/
def datKV : List (Key × AVal) → Option (List (Key × PyData))
  | [] => some []
  | p :: r => (AVal.data? p.2).bind fun x => (datKV r).map ((p.1, x) :: ·)
theorem datKV_ok : ∀ {kvs : List (Key × AVal)} {es : List (Key × V)} {ks : List (Key × PyData)}, datKV kvs = some ks → KrOk ad F kvs es → KvOk F ks es
  | [], _, ks, h, .nil => by cases h; exact .nil
  | p :: r, _, ks, h, .cons (b := q) hq t => by
    have h' : (AVal.data? p.2).bind (fun x => (datKV r).map ((p.1, x) :: ·)) = some ks := h
    cases hp : AVal.data? p.2 with
    | none => rw [hp] at h'; cases h'
    | some x =>
      rw [hp] at h'
      cases hr : datKV r with
      | none => rw [hr] at h'; cases h'
      | some ls =>
        rw [hr] at h'
        cases h'
        exact .cons ⟨hq.1, by have := hq.2; rw [AVal.data?_of hp] at this; exact this⟩ (datKV_ok hr t)
def dictDN (xs : List AVal) : TNA := fun s Q => one (fun x => match view s x with
  | .dct kvs => onSome (datKV kvs) fun ks => Q (.dK ks) s
  | _ => False) xs
theorem c_dictD : CalN X B (.type "dict") dictDN := fun ad F H s σ xs us Q r hp t => by
  obtain ⟨x, u, rfl, rfl, hx, t⟩ := one_ok t hp
  split at t
  · rename_i kvs hk
    obtain ⟨ks, e, q⟩ := t
    obtain ⟨l, es, rfl, h1, h2⟩ := hx.dct r hk
    exact ⟨_, call_dictD, l, es, rfl, h1, fun p hp => .here (c := .dK ks) r hp ⟨_, upd_same, datKV_ok e h2⟩ rfl q⟩
  · exact t.elim
theorem datKV_dkv (kvs : List (Key × PyData)) : datKV (dkv kvs) = some kvs := by
  induction kvs with
  | nil => rfl
  | cons p r ih => show (some p.2).bind (fun x => (datKV (dkv r)).map ((p.1, x) :: ·)) = _; rw [ih]; rfl
theorem txtVals_dkv (kvs : List (Key × Str)) : txtVals (dkv (kvs.map fun p => (p.1, PyData.str p.2))) = some (kvs.map (·.2)) := by
  induction kvs with
  | nil => rfl
  | cons p r ih => show (some p.2).bind (fun x => (txtVals (dkv (r.map fun p => (p.1, PyData.str p.2)))).map (x :: ·)) = _; rw [ih]; rfl
def srtVV (s : AS) (Q : Cell → AS → Prop) : View → Prop
  | .dct kvs => onSome (txtVals kvs) fun ks => ks.length < 64 ∧ Q (.lst ((srt ks).map .str)) s
  | _ => False
def dictDV (s : AS) (Q : Cell → AS → Prop) : View → Prop
  | .dct kvs => onSome (datKV kvs) fun ks => Q (.dK ks) s
  | _ => False
theorem srtVV_dct {Q : Cell → AS → Prop} {kvs : List (Key × AVal)} : srtVV s Q (.dct kvs) = onSome (txtVals kvs) fun ks => ks.length < 64 ∧ Q (.lst ((srt ks).map .str)) s := rfl
theorem dictDV_dct {Q : Cell → AS → Prop} {kvs : List (Key × AVal)} : dictDV s Q (.dct kvs) = onSome (datKV kvs) fun ks => Q (.dK ks) s := rfl
theorem srtVN_V {ta : TEA} {Q : Cell → AS → Prop} : srtVN ta s Q = ta s fun x s1 => srtVV s1 Q (view s1 x) := by
  unfold srtVN
  congr 1
theorem dictDN_V {Q : Cell → AS → Prop} : dictDN [x] s Q = dictDV s Q (view s x) := by
  show (match view s x with | .dct kvs => onSome (datKV kvs) fun ks => Q (.dK ks) s | _ => False) = _
  cases view s x <;> rfl
end
end Kr
/-! layer A28 -/
namespace L2
open PySem PySem.Spec PyProof.Rows
/-- an error that was caught in the frame of X: the def's own state J without it, and where its object lies (h: the heap of now) -/
structure Caught (X : Cx) (pins : List (Addr × Obj)) (σ : St) (H : Hp) (C a : Addr) (d : Option Addr) (B : Heap) (sI s' : Shared) (h : Heap) : Prop where
  J : Inv X pins σ H sI
  na : H a = none
  nb : ∀ b o, sI.heap.get? b = some o → b ∉ frs X.stack → B.get? b = some o
  os : s'.os = sI.os
  ag : AllBare s'.gens
  up : sI.heap.UpToSlots h
  fl : HandSPX.FlyingZ B (X.env :: X.outer) a (Zc (.ref C) d) h
section
variable {X : Cx} {pins : List (Addr × Obj)} {σ : St} {H : Hp} {C a : Addr} {d : Option Addr} {B : Heap} {sI s' : Shared} {h h' : Heap}
theorem Caught.next (c : Caught X pins σ H C a d B sI s' h) (up : h.UpToSlots h') (fl : HandSPX.FlyingZ B (X.env :: X.outer) a (Zc (.ref C) d) h') : Caught X pins σ H C a d B sI s' h' :=
  ⟨c.J, c.na, c.nb, c.os, c.ag, c.up.trans up, fl⟩
theorem Caught.off (c : Caught X pins σ H C a d B sI s' h) : a ∉ frs (X.env :: X.outer) := fun m => by
  obtain ⟨oe, vs, h1, _, h2⟩ := c.fl.there
  obtain ⟨_, u, h3, h4⟩ := c.fl.2.2.1.mem m
  rw [h1] at h3
  exact h4 vs (Option.some.inj h3 ▸ h2)
theorem Caught.offS (c : Caught X pins σ H C a d B sI s' h) (hs : X.stack = X.env :: X.outer) : a ∉ frs X.stack := hs ▸ c.off
/-- it is none of the objects that stood before -/
theorem Caught.fresh (c : Caught X pins σ H C a d B sI s' h) (hs : X.stack = X.env :: X.outer) {o : Obj} (e : sI.heap.get? a = some o) : False := by
  have z := c.nb a o e (c.offS hs)
  rw [c.fl.2.1] at z
  cases z
end
end L2
namespace Kr
open PySem L2
/-! ## errors of the program's own classes, by names -/
inductive XN where
  | house | plain | order | number | kind | many | text | row | step
  deriving DecidableEq
def XN.all : List XN := [.house, .plain, .order, .number, .kind, .many, .text, .row, .step]
end Kr
/-! layer A29 -/
namespace Kr
open PySem L2
/-! ## isinstance of errors, their field, raising NoStep -/
section
variable {X : Cx} {B : Bs} {pins : List (Addr × Obj)} {σ : L2.St} {H : Hp} {s : Shared} {a C : Addr} {d : Option Addr}
theorem AtOk.dict {F H : Hp} {y : PyData} {d : Option Addr} (k : Same F H) (h : AtOk F y d) : d = none ∨ ∃ dd fs, d = some dd ∧ H dd = some (.xd fs) := by
  rcases h with ⟨_, e⟩ | ⟨dd, i, w, _, e, h2, _⟩
  · exact .inl e
  · exact .inr ⟨dd, _, e, k _ _ h2⟩
end
def AVal.dat? : AVal → Option PyData
  | .d x => some x
  | _ => none
/-! ### NoStep(at): its own __init__ -/
end Kr
/-! layer A30 -/
/-! layer A31 -/
namespace Kr
open PySem L2
/-! ## count and index in lists of truths, numbers, texts -/
def flatP : PyData → Bool
  | .none => true
  | .bool _ => true
  | .int _ => true
  | .str _ => true
  | _ => false
/-! ## tuple(list) -/
def tupleA (xs : List AVal) : TEA := fun s Q => one (fun x => onSome (listOf s x) fun ds => Q (.d (.tuple ds)) s) xs
section
variable {X : Cx} {B : Bs}
theorem c_tuple : CalA X B (.type "tuple") tupleA := fun ad F H s σ xs us Q r hp t => by
  obtain ⟨x, u, rfl, rfl, hx, ds, e, q⟩ := one_ok t hp
  obtain ⟨l, vs, rfl, h1, h2⟩ := hx.list r e
  exact ⟨_, call_tuple_of, l, vs, rfl, .inl ⟨SqL.of h1, fun p hp => Post.newD (d := .tuple ds) r hp ⟨p, vs, rfl, upd_same, h2.mono (same_upd (r.fh.free hp))⟩ q⟩⟩
end
end Kr
/-! layer A32 -/
namespace Kr
open PySem L2 PySem.Spec PyProof.Rows
/-! ## repr of any data (dicts of flat things) -/
mutual
def rpD : PyData → Bool
  | .list ds => rpAll ds
  | .tuple ds => rpAll ds
  | .dict kvs => kvs.all fun p => flatP p.1 && flatP p.2
  | _ => true
def rpAll : List PyData → Bool
  | [] => true
  | d :: ds => rpD d && rpAll ds
end
structure RpOk (d : PyData) : Prop where
  p : rpD d = true
  s : d.showable = true
  n : d.depth ≤ 60
  z : d.shown.length ≤ sizeLine
def reprXA (xs : List AVal) : TEA := fun s Q => one (fun x => onSome x.dat? fun d => RpOk d ∧ Q (.d (.str d.shown)) s) xs
end Kr
/-! layer A33 -/
namespace Kr
open PySem L2
/-! ## the simp set for errors -/
theorem dat?_d {x : PyData} : (AVal.d x).dat? = some x := rfl
end Kr
/-! layer A34 -/
namespace Kr
open PySem L2
/-! ## a comprehension whose things are our own: they go into one tree -/
def lcTW (g : TGA) (tt : TTA) (te : TEA) (vs : List Nat) (ok : List Cell → Prop) (sl : List (Option AVal)) : List PyData → List AVal → List Cell → (List AVal → List Cell → Prop) → Prop
  | [], acc, cs, Q => ok cs ∧ Q acc cs
  | x :: xs, acc, cs, Q => ok cs ∧ g (.d x) ⟨wipeA sl vs, cs⟩ fun s1 => tt s1 fun b s2 => if b = true then te s2 fun y s3 => lcTW g tt te vs ok sl xs (acc ++ [y]) s3.cs Q else lcTW g tt te vs ok sl xs acc s2.cs Q
def lcTE (sl : List (Option AVal)) (Q : VQ) (acc : List AVal) (cs : List Cell) : Prop := ∀ f : Nat → Addr, onSome (grabs f cs acc) fun r => Q (.r cs.length) ⟨sl, r.2 ++ [.tr (.nd .lst (f cs.length) r.1)]⟩
def lcT (ti : TIO) (g : TGA) (tt : TTA) (te : TEA) (vs : List Nat) : TEA := fun s Q => ti s fun ds ok s1 => lcTW g tt te vs ok s1.sl ds [] s1.cs (lcTE s1.sl Q)
section
variable {X : Cx} {B : Bs} {σ : St} {F H : Hp} {elt tg iter c : Expr} {scope : Scope} {pos spos py : Pos} {own : List (Str × Nat)} {y : Str} {ti : TIO} {g : TGA} {tt : TTA} {te : TEA} {ks vs : List Nat}
theorem paired_snoc {α β : Type} {R : α → β → Prop} : ∀ {xs : List α} {ys : List β} {x : α} {y : β}, Paired R xs ys → R x y → Paired R (xs ++ [x]) (ys ++ [y])
  | _, _, _, _, .nil, h => .cons h .nil
  | _, _, _, _, .cons a t, h => .cons a (paired_snoc t h)
theorem dsp_post0 {ad : List Addr} {s : AS} {xs : List AVal} {ws : List V} {Q : VQ} {p : Addr} (r : Rl B ad F H s σ) (hv : Paired (VOk ad F) xs ws) (hp : H p = none) (q : lcTE s.sl Q xs s.cs) : Post B ad F σ Q (.ref p) (upd H p (.lst ws)) := by
  have hff := adF (ad ++ [p])
  obtain ⟨hf, hfp⟩ := hff.of_snoc
  obtain ⟨⟨ts, cs2⟩, hg, q⟩ := q _
  obtain ⟨r1, L1, t1⟩ := grabs_ok hf r (Loose.nil r) hv hg
  rw [List.nil_append] at L1
  have r2 := r1.newT (k := .lst) L1 hp rfl t1 trivial
  rw [← r.len, hfp, r.len] at q
  exact ⟨_, F, .r s.cs.length, _, ⟨[p], rfl⟩, Same.refl _, r2, ⟨p, by rw [← r.len]; simp, rfl⟩, q⟩
theorem lc_coreT {T : TT} (hi : IO X B tg iter ti) (hg : ∀ s H0 C cl fp, GT (Blk X scope s H0 C cl fp) tg ks g) (hk : ∀ k ∈ ks, k ∈ vs)
    (ht : ∀ B' ad F H s σ Q, Rl B' ad F H s σ → tt s Q → T σ H (PostT B' ad F σ Q)) (hT : ∀ σ H (Q Q' : Bool → Hp → Prop), T σ H Q → (∀ b H', Q b H' → Q' b H') → T σ H Q')
    (he : ∀ s H0 C cl fp B', EA (Blk X scope s H0 C cl fp) B' elt te) {ad : List Addr} {s : AS} {Q : VQ} {K : VK} (r : Rl B ad F H s σ) (t : lcT ti g tt te vs s Q) (hK : ∀ v H', Post B ad F σ Q v H' → K v H') :
    tLc (WI X tg iter) (gB X scope tg) T (eB X scope elt) vs σ H K := by
  refine hi.run ad F H s σ _ _ r t fun J ad2 F2 H2 s2 ds ok e2 k2 r2 w hz q D hD => ?_
  obtain ⟨f1, f2, f3⟩ := r2.fresh hD
  have hF2 : F2 D = none := r2.fh.free hD
  refine ⟨fun i m H' => m = ds.length - i ∧ i ≤ ds.length ∧ ∃ ad' F' cs acc ys, Same F2 F' ∧ Ext ad2 ad' ∧ Rl B ad' F' H' ⟨s2.sl, cs⟩ σ ∧ H' D = some (.lst ys) ∧ F' D = none ∧ (D ∉ ad' ∧ D ∉ cs.flatMap Cell.ads) ∧ Paired (VOk ad' F') acc ys ∧ acc.length ≤ i ∧ lcTW g tt te vs ok s2.sl (ds.drop i) acc cs (lcTE s2.sl Q),
    ⟨ds.length, by simp, Nat.zero_le _, ad2, F2, s2.cs, [], [], Same.refl _, Ext.refl _, r2.gr ((Gr.refl r2.fh).open' hD), upd_same, hF2, ⟨f3, fun z => (r2.inn.fr D z).2 hD⟩, .nil, Nat.le_refl _, q⟩, ?_⟩
  rintro i m H' ⟨rfl, hi', ad', F', cs, acc, ys, sF, eF, r', hHD, hFD, ⟨hDad, hDt⟩, hda, hacc, q'⟩
  have hok : ok cs := by
    cases hdr : ds.drop i with
    | nil => rw [hdr] at q'; exact q'.1
    | cons _ _ => rw [hdr] at q'; exact q'.1
  obtain ⟨w1, w2⟩ := w B ad' F' H' ⟨s2.sl, cs⟩ σ eF sF r' hok
  by_cases hlt : i < ds.length
  · have e0 : ds[i]? = some ds[i] := List.getElem?_eq_getElem hlt
    obtain ⟨go, yl⟩ := w1 i _ e0
    rw [drop_get e0] at q'
    refine .inr ⟨go, fun H3 => i + 1 ≤ ds.length ∧ ∃ ad' F' cs acc ys, Same F2 F' ∧ Ext ad2 ad' ∧ Rl B ad' F' H3 ⟨s2.sl, cs⟩ σ ∧ H3 D = some (.lst ys) ∧ F' D = none ∧ (D ∉ ad' ∧ D ∉ cs.flatMap Cell.ads) ∧ Paired (VOk ad' F') acc ys ∧ acc.length ≤ i + 1 ∧ lcTW g tt te vs ok s2.sl (ds.drop (i + 1)) acc cs (lcTE s2.sl Q),
      fun H3 p' => ⟨ds.length - (i + 1), by omega, rfl, p'⟩, fun x H4 y => ?_⟩
    obtain ⟨F4, g4, hd⟩ := yl x H4 y
    have r4 := r'.gr g4
    have hHD4 := g4.hh _ _ hHD
    have hFD4 : F4 D = none := g4.f0 hFD hHD
    have rw4 := r4.wipe vs
    intro s0 H0 C cl fp
    refine ((hg s0 H0 C cl fp).run _ ad' F4 H4 _ _ (.d ds[i]) x _ rw4.base hd q'.2).mono2 ?_
    rintro σ5 H5 ⟨rfl, k5, s5, r5, q5⟩
    refine ⟨wipe_keeps k5 hk, hT _ _ _ _ (ht _ ad' F4 H5 s5 σ5 _ r5 q5) fun b H6 q6 => ?_⟩
    obtain ⟨ad6, F6, s6, e6, k6, r6, q6⟩ := q6
    cases b with
    | true =>
      rw [if_pos rfl] at q6
      refine iteT ?_
      intro s0 H0 C cl fp
      refine ((he s0 H0 C cl fp _).run ad6 F6 H6 s6 σ5 _ r6 q6).imp fun v H7 q7 => ?_
      obtain ⟨ad7, F7, z, s7, e7, k7, r7, hv, q7⟩ := q7
      obtain ⟨h1, h2, h3, h9⟩ := r7.aside hDad hDt hHD4 hFD4
      have rb := r4.back (rw4.rebase r7) (e6.trans e7) (k6.trans k7)
      refine ⟨ys, h1, ?_, hlt, ad7, F7, s7.cs, acc ++ [z], ys ++ [v], sF.trans (g4.ff.trans (k6.trans k7)), eF.trans (e6.trans e7), rb.aput h3 h2 f1 h9 (r2.offT hD), upd_same, h2, ⟨h3, h9⟩, paired_snoc (Paired.imp hda fun _ _ h => h.mono (e6.trans e7) (g4.ff.trans (k6.trans k7))) hv, by simp; omega, q7⟩
      have h8 := Paired.len hda
      omega
    | false =>
      obtain ⟨h1, h2, h3, h9⟩ := r6.aside hDad hDt hHD4 hFD4
      have rb := r4.back (rw4.rebase r6) e6 k6
      exact iteF ⟨hlt, ad6, F6, s6.cs, acc, ys, sF.trans (g4.ff.trans k6), eF.trans e6, rb, h1, h2, ⟨h3, h9⟩, Paired.imp hda fun _ _ h => h.mono e6 (g4.ff.trans k6), by omega, q6⟩
  · have e : i = ds.length := by omega
    subst e
    rw [List.drop_length] at q'
    refine .inl ⟨w2, hK _ _ ?_⟩
    have p := dsp_post0 (Q := Q) (r'.aout hDad hFD f1 hDt (r2.offT hD)) hda out_same q'.2
    rw [upd_out hHD] at p
    exact p.up (e2.trans eF) (k2.trans sF)
end
end Kr
/-! layer A35 -/
namespace Kr
open PySem L2
/-! ## a list node of a tree is walked while what hangs on it changes -/
def kidsN : Option (Nat × List Nat × Kd × Addr × List Tr) → Option (List AVal)
  | some (n, pt, .lst, _, ts) => some (kids n pt ts)
  | _ => none
def kidsL (s : AS) (x : AVal) : Option (List AVal) := kidsN (nodeAt s x)
/-- the thing stays the same where cells from m on are forgotten -/
def AVal.still (m : Nat) : AVal → Bool
  | .r n => decide (n < m)
  | .a _ _ _ => true
  | _ => false
abbrev TYA := AS → Nat → AVal → (AVal → AS → Prop) → Prop
def yE : TYA := fun s i z Q => Q (.r s.cs.length) ⟨s.sl, s.cs ++ [.nt [.d (.int (i : Nat)), z]]⟩
def forKW (m : Nat) (y : TYA) (g : TGA) (t : TSA) (D : DA) (x : AVal) (L : Nat) : Nat → Nat → AS → Prop
  | 0, _, s => onSome (kidsL s x) fun ys => ys.length = L ∧ D.nx s
  | k + 1, i, s => onSome (kidsL s x) fun ys => ys.length = L ∧ onSome ys[i]? fun z => y s i z fun w s0 => g w s0 fun s1 => t ⟨fun s2 => ∃ s3, Wk m s2 s3 ∧ forKW m y g t D x L k (i + 1) s3, D.rt, D.nx, fun s2 => ∃ s3, Wk m s2 s3 ∧ forKW m y g t D x L k (i + 1) s3⟩ s1
def forKA (m : Nat) (y : TYA) (ta : TEA) (g : TGA) (t : TSA) : TSA := fun D s => ta s fun x s1 => x.still m = true ∧ onSome (kidsL s1 x) fun ys => forKW m y g t D x ys.length ys.length 0 s1
section
variable {X : Cx} {B : Bs} {ad : List Addr} {F H : Hp} {s : AS} {σ : St} {x : AVal} {u v : V} {tg iter e : Expr} {body : List Stmt} {t : TSA} {g : TGA} {ks : List Nat} {pos p : Pos} {ta : TEA} {y : TYA} {ys : List AVal}
theorem kidsL_ok (r : Rl B ad F H s σ) (hx : VOk ad F x u) (e : kidsL s x = some ys) : ∃ a vs, u = .ref a ∧ H a = some (.lst vs) ∧ Paired (VOk ad F) ys vs := by
  unfold kidsL at e
  cases hn : nodeAt s x with
  | none => rw [hn] at e; cases e
  | some N =>
    obtain ⟨n, pt, k, q, ts⟩ := N
    rw [hn] at e
    obtain ⟨t, p, vs, N⟩ := nodeAt_ok r hx hn
    cases k with
    | lst =>
      cases e
      exact ⟨q, vs, N.val, N.ho, kids_ok N.kids⟩
    | _ => cases e
/-- how the walk goes on over the list at a -/
def Yld (y : Nat → V → Hp → V → Hp → Prop) (J : It) (a : Addr) : Prop :=
  (∀ (H3 : Hp) (ws : List V) (i : Nat) (v : V), H3 a = some (.lst ws) → ws[i]? = some v → J.go i H3 ∧ ∀ x H4, J.yld i H3 x H4 → y i v H3 x H4) ∧ ∀ (H3 : Hp) (ws : List V) (n : Nat), H3 a = some (.lst ws) → ws.length ≤ n → J.stop n H3
def yldE : Nat → V → Hp → V → Hp → Prop := fun i v H3 x H4 => ∃ T, x = .ref T ∧ H3 T = none ∧ H4 = upd H3 T (.tup [.int (i : Nat), v])
structure IK (X : Cx) (B : Bs) (tg iter : Expr) (ta : TEA) (y : Nat → V → Hp → V → Hp → Prop) : Prop where
  run : ∀ ad F H s σ (Q : VQ) (R : It → Hp → Prop), Rl B ad F H s σ → ta s Q → (∀ x s1, Q x s1 → ∃ ys, kidsL s1 x = some ys) → (∀ J ad1 F1 H1 x s1 a, Same F F1 → Rl B ad1 F1 H1 s1 σ → VOk ad1 F1 x (.ref a) → Yld y J a → (∀ vs, H1 a = some (.lst vs) → vs.length ≤ sizeLine) → Q x s1 → R J H1) → WI X tg iter σ H R
theorem ik_enum {elts : List Expr} {kk : Nat} {tpos : Pos} (hm : X.mg "enumerate" = none) (ha : EA X B e ta) (hg : Gl X "enumerate" := by rfl) (l : starEach [e] X.env = [(false, eval e X.env)] := by rfl) : IK X B (.Tuple elts kk tpos) (.Call (.Name "enumerate" p) [e] [] pos) ta yldE := ⟨fun ad F H s σ Q R r t hq k =>
  wi_of (pi_enum hg hm (pa_cons pe_we pa_nil l) l) ((WE.sz (ha.run ad F H s σ _ r t)).imp fun u H1 q => by
    obtain ⟨⟨ad1, F1, x, s1, e1, k1, r1, hx, q⟩, hz⟩ := q
    obtain ⟨ys, hy⟩ := hq _ _ q
    obtain ⟨a, vs, rfl, h1, _⟩ := kidsL_ok r1 hx hy
    refine ⟨a, vs, rfl, SqL.of h1, k _ ad1 F1 H1 x s1 a k1 r1 hx ⟨fun H3 ws i v h3 hv => ⟨⟨ws, v, SqL.of h3, hv⟩, fun x H4 y => ?_⟩, fun H3 ws n h3 hl => ⟨ws, SqL.of h3, hl⟩⟩ (fun vs hv => hz a vs hv) q⟩
    obtain ⟨T, x0, rfl, nT, rfl, hx⟩ := y
    have := hx ws (SqL.of h3)
    rw [hv] at this
    have := Option.some.inj this
    subst this
    exact ⟨T, rfl, nT, rfl⟩)⟩
/-- what is laid for a turn -/
def YOk (y : TYA) (yl : Nat → V → Hp → V → Hp → Prop) : Prop := ∀ (B : Bs) (ad : List Addr) (F H : Hp) (s : AS) (σ : St) (i : Nat) (z : AVal) (v : V) (x : V) (H4 : Hp) (Q : VQ), Rl B ad F H s σ → VOk ad F z v → yl i v H x H4 → y s i z Q → Post B ad F σ Q x H4
theorem y_E : YOk yE yldE := fun B ad F H s σ i z v x H4 Q r hz yl q => by
  obtain ⟨T, rfl, nT, rfl⟩ := yl
  refine PostN.owned (PostN.here (c := .nt [.d (.int (i : Nat)), z]) r nT ⟨_, upd_same, .cons rfl (.cons hz .nil)⟩ rfl q)
theorem sa_forK {yl : Nat → V → Hp → V → Hp → Prop} (hp : PassesOwn (model X.prog X.w) X.A X.env X.xe) (hc : X.calm = true) (hi : IK X B tg iter ta yl) (hy : YOk y yl) (hg : GT X tg ks g) (hb : ∀ F, Fl B F → SS X (B.fl F) body t) (hs : ∀ x, foldedSetIterable iter X.env x = pure x := by intro _; rfl) :
    SA X B (.For tg iter body [] pos) (forKA B.S.length y ta g t) := ⟨fun D s h ad F H σ r => ws_of (ps_for hp hc pi_wi pg_wg pss_wss hs) (hi.run ad F H s σ _ _ r h (fun x s1 q => let ⟨_, ys, hy, _⟩ := q; ⟨ys, hy⟩) fun J ad2 F2 H2 x s2 a k2 r2 hx jy hz q => by
  obtain ⟨hst, ys0, hk0, q⟩ := q
  obtain ⟨a', vs0, ea, h20, hp0⟩ := kidsL_ok r2 hx hk0
  cases ea
  have hL : ys0.length ≤ sizeLine := by rw [Paired.len hp0]; exact hz vs0 h20
  generalize ys0.length = L at q hL
  have stay : ∀ ad3 F3 H3 s3 σ3, Rl B ad3 F3 H3 s3 σ3 → VOk ad3 F3 x (.ref a) := fun ad3 F3 H3 s3 σ3 r3 => by
    cases x with
    | d _ => cases hst
    | s _ _ => cases hst
    | a _ _ _ => exact hx
    | r n =>
      obtain ⟨b, hb, eb⟩ := hx
      cases eb
      have hn : n < B.S.length := of_decide_eq_true hst
      obtain ⟨ad', e1, _⟩ := r2.pre
      obtain ⟨ad'', e2, _⟩ := r3.pre
      refine ⟨a, ?_, rfl⟩
      rw [e2, List.getElem?_append_left hn]
      rw [e1, List.getElem?_append_left hn] at hb
      exact hb
  refine ⟨fun i m σ' H' => m = L - i ∧ i ≤ L ∧ ∃ ad' F' s', Same F2 F' ∧ Rl B ad' F' H' s' σ' ∧ forKW B.S.length y g t D x L (L - i) i s', ⟨L, by simp, Nat.zero_le _, ad2, F2, s2, Same.refl _, r2, by rw [Nat.sub_zero]; exact q⟩, ?_⟩
  rintro i m σ' H' ⟨rfl, hi', ad', F', s', s1, r', q'⟩
  by_cases hlt : i < L
  · rw [show L - i = (L - (i + 1)) + 1 by omega] at q'
    obtain ⟨ys, hk, hl, z, hz', q'⟩ := q'
    obtain ⟨a', vs, ea, h2, hp2⟩ := kidsL_ok r' (stay _ _ _ _ _ r') hk
    cases ea
    obtain ⟨v, hv, hzv⟩ := Kr.Paired.get hp2 hz'
    obtain ⟨go, yl⟩ := jy.1 H' vs i v h2 hv
    refine .inr ⟨go, fun σ3 H3 => ∃ ad3 F3 s3, Same F2 F3 ∧ Rl B ad3 F3 H3 s3 σ3 ∧ forKW B.S.length y g t D x L (L - (i + 1)) (i + 1) s3, fun σ3 H3 p' => ⟨L - (i + 1), by omega, rfl, hlt, p'⟩, fun xx H4 yy => ?_⟩
    obtain ⟨ad4, F4, w, s4, e4, k4, r4, hw, q4⟩ := hy _ _ _ _ _ _ i z v xx H4 _ r' hzv (yl xx H4 yy) q'
    refine (hg.run B ad4 F4 H4 s4 σ' w xx _ r4 hw q4).mono2 ?_
    rintro σ5 H5 ⟨rfl, k5, s5, r5, q5⟩
    intro pins sh I
    refine thn ((hb F4 r5.flr).run _ s5 q5 ad4 F4 H5 σ5 r5.floor pins sh I) fun f s6 z => ?_
    cases f with
    | next =>
      obtain ⟨σ2, H2, I2, ad2, F2', s2, r2', s3, wk, w3⟩ := z
      obtain ⟨ad9, r9⟩ := (r5.unfloor r2').weakX wk
      exact ⟨σ2, H2, I2, ad9, F2', s3, s1.trans (k4.trans r2'.ff), r9, w3⟩
    | brk =>
      obtain ⟨σ2, H2, I2, ad2, F2', s2, r2', w3⟩ := z
      exact ⟨σ2, H2, I2, ad2, F2', s2, r5.unfloor r2', w3⟩
    | cont =>
      obtain ⟨σ2, H2, I2, ad2, F2', s2, r2', s3, wk, w3⟩ := z
      obtain ⟨ad9, r9⟩ := (r5.unfloor r2').weakX wk
      exact ⟨σ2, H2, I2, ad9, F2', s3, s1.trans (k4.trans r2'.ff), r9, w3⟩
    | ret u =>
      obtain ⟨v, σ2, H2, I2, rv, ad2, F2', x2, s2, σ3, r2', hv, w3⟩ := z
      exact ⟨v, σ2, H2, I2, rv, ad2, F2', x2, s2, σ3, r5.unfloor r2', hv, w3⟩
  · have e : i = L := by omega
    subst e
    rw [Nat.sub_self] at q'
    obtain ⟨ys, hk, hl, q'⟩ := q'
    obtain ⟨a', vs, ea, h2, hp2⟩ := kidsL_ok r' (stay _ _ _ _ _ r') hk
    cases ea
    exact .inl ⟨jy.2 H' vs i h2 (by rw [← Paired.len hp2, hl]; exact Nat.le_refl _), ad', F', s', r', q'⟩)⟩
/-! ## a node is taken apart -/
def seqV : View → Option (List AVal)
  | .seq xs => some xs
  | _ => none
def tup2N (g1 g2 : TGA) : TGA := fun x s Q => onSome (seqV (view s x)) fun xs => match xs with
  | [x1, x2] => g1 x1 s fun s1 => g2 x2 s1 Q
  | _ => False
theorem seqV_of {w : View} {xs : List AVal} (h : seqV w = some xs) : w = .seq xs := by
  cases w <;> cases h
  rfl
theorem gt_tup2N {t1 t2 : Expr} {ks1 ks2 : List Nat} {g1 g2 : TGA} {k : Nat} (hc : X.calm = true) (h1 : GT X t1 ks1 g1) (h2 : GT X t2 ks2 g2)
    (hs : (assignEach [t1, t2] X.env).map (·.2) = assign t1 X.env :: (assignEach [t2] X.env).map (·.2) := by rfl) (hs2 : (assignEach [t2] X.env).map (·.2) = assign t2 X.env :: (assignEach [] X.env).map (·.2) := by rfl)
    (hn : (assignEach [t1, t2] X.env).length = 2 := by rfl) (hst : (assignEach [t1, t2] X.env).findIdx? (·.1) = none := by rfl) : GT X (.Tuple [t1, t2] k pos) (ks1 ++ ks2) (tup2N g1 g2) := ⟨fun B ad F H s σ x v Q r hv t => by
  obtain ⟨xs, hx, t⟩ := t
  obtain ⟨l, vs, rfl, hl, hp⟩ := VOk.seq r hv (seqV_of hx)
  match xs, vs, hp, t with
  | [x1, x2], _, .cons (b := v1) p1 (.cons (b := v2) p2 .nil), t =>
    refine wg_unp hc (pgs_cons pg_wg (pgs_cons pg_wg pgs_nil hs2) hs) hn hst hl.symm rfl ⟨v1, [v2], rfl, ?_⟩
    refine (h1.run B ad F H s σ x1 v1 _ r p1 t).mono2 ?_
    rintro σ1 H1 ⟨rfl, k1, s1, r1, t1⟩
    refine ⟨v2, [], rfl, (h2.run B ad F H1 s1 σ1 x2 v2 _ r1 p2 t1).mono2 ?_⟩
    rintro σ2 H2 ⟨rfl, k2, s2, r2, t2⟩
    exact ⟨rfl, rfl, k1.trans k2, s2, r2, t2⟩⟩
end
end Kr
/-! layer A36 -/
namespace Kr
open PySem L2
/-! ## a call that takes things of our own as they stand, and tells a bare thing -/
def bareD : PyData → Bool
  | .none => true
  | .bool _ => true
  | .int _ => true
  | .str _ => true
  | _ => false
section
variable {X : Cx} {B : Bs} {ad : List Addr} {F H F2 : Hp} {s : AS} {σ : St} {x : AVal} {v : V} {e : Expr} {es : List Expr} {k n : Nat} {f : Addr} {fd : FuncData} {ps : List Str} {t : SpT} {y : Str} {p pos : Pos} {tl : TLA}
theorem bare_da {d : PyData} (h : bareD d = true) (hd : Da F d v) : Da F2 d v := by
  cases d <;> first | exact hd | cases h
end
end Kr
/-! layer A37 -/
namespace Kr
open PySem L2
section
variable {m : Nat} {y : TYA} {g : TGA} {t : TSA} {D : DA} {x : AVal} {s : AS} {L : Nat}
/-- a walk over nodes, by the state at each turn -/
theorem forK_fun (A : Nat → AS) (h0 : s = A 0)
    (hs : ∀ i, i < L → ∃ ys, kidsL (A i) x = some ys ∧ ys.length = L ∧ ∃ z, ys[i]? = some z ∧ ∀ N : AS → Prop, (∀ s2, Wk m s2 (A (i + 1)) → N s2) → y (A i) i z fun w s0 => g w s0 fun s1 => t ⟨N, D.rt, D.nx, N⟩ s1)
    (hl : ∃ ys, kidsL (A L) x = some ys ∧ ys.length = L) (hd : D.nx (A L)) : forKW m y g t D x L L 0 s := by
  subst h0
  have key : ∀ k i, i + k = L → forKW m y g t D x L k i (A i) := by
    intro k
    induction k with
    | zero =>
      intro i e
      obtain rfl : i = L := by omega
      obtain ⟨ys, h1, h2⟩ := hl
      exact ⟨ys, h1, h2, hd⟩
    | succ k ih =>
      intro i e
      obtain ⟨ys, h1, h2, z, h3, h4⟩ := hs i (by omega)
      exact ⟨ys, h1, h2, z, h3, h4 _ fun s2 w => ⟨_, w, ih (i + 1) (by omega)⟩⟩
  exact key L 0 (by omega)
end
end Kr
/-! layer A38 -/
namespace Kr
open PySem L2
/-! ## dicts keyed by tuples: nodes of trees -/
def keyOf1 : PyData → Option Key
  | .int i => some (.inl i)
  | .str x => some (.inr x)
  | _ => none
def keysOf1 : List PyData → Option (List Key)
  | [] => some []
  | d :: ds => (keyOf1 d).bind fun k => (keysOf1 ds).map (k :: ·)
def keyTd : AVal → Option (List Key)
  | .d (.tuple ds) => keysOf1 ds
  | _ => none
def dtN : Option (Nat × List Nat × Kd × Addr × List Tr) → Option (Nat × List Nat × List (List Key) × Addr × List Tr)
  | some (n, pt, .dctT ks, q, ts) => some (n, pt, ks, q, ts)
  | _ => none
def dtAt (s : AS) (x : AVal) : Option (Nat × List Nat × List (List Key) × Addr × List Tr) := dtN (nodeAt s x)
section
variable {X : Cx} {B : Bs} {ad : List Addr} {F H : Hp} {s : AS} {σ : St} {x y : AVal} {u v : V} {o e value : Expr} {pos tpos : Pos} {ta tb tc : TEA}
def memT {κ : Type} [DecidableEq κ] (k : κ) (ks : List κ) : Bool := ks.any fun j => decide (j = k)
theorem val_zip_some {κ : Type} [DecidableEq κ] {k : κ} : ∀ {ks : List κ} {vs : List V}, ks.length = vs.length → (valV (ks.zip vs) k).isSome = memT k ks
  | [], vs, _ => rfl
  | j :: ks, [], h => by cases h
  | j :: ks, v :: vs, h => by
    rw [List.zip_cons_cons, ← valV_any]
    unfold memT
    rw [List.any_cons, List.any_cons, valV_any, val_zip_some (by simpa using h)]
    rfl
theorem putK_new {κ : Type} [DecidableEq κ] {k : κ} {ks : List κ} {vs : List V} {v : V} (h : ks.length = vs.length) (hk : memT k ks = false) : putK (ks.zip vs) k v = (ks ++ [k]).zip (vs ++ [v]) := by
  unfold putK
  rw [valV_any, val_zip_some h, hk, if_neg (by decide), List.zip_append h]
  rfl
end
end Kr
/-! layer A39 -/
namespace Kr
open PySem L2
/-! ## objects: nodes of kind obj -/
section
variable {B : Bs} {ad : List Addr} {F H : Hp} {s : AS} {σ : St} {C dx p : Addr}
/-- a new object, with the dict that stands aside -/
theorem Rl.newO (r : Rl B ad F H s σ) (hp : H p = none) (hd : H dx = none) (hne : dx ≠ p) : Rl B (ad ++ [p]) F (upd (upd H dx (.own p)) p (.ins C dx [])) ⟨s.sl, s.cs ++ [.tr (.nd (.obj C dx []) p [])]⟩ σ := by
  obtain ⟨f1, f2, f3⟩ := r.fresh hp
  obtain ⟨g1, g2, g3⟩ := r.fresh hd
  have f4 : p ∉ s.cs.flatMap Cell.ads := fun z => (r.inn.fr p z).2 hp
  have g4 : dx ∉ s.cs.flatMap Cell.ads := fun z => (r.inn.fr dx z).2 hd
  have hFp : F p = none := r.fh.free hp
  have hFd : F dx = none := r.fh.free hd
  have up : ∀ b, b ≠ p → b ≠ dx → upd (upd H dx (.own p)) p (.ins C dx []) b = H b := fun b hb hb2 => by rw [upd_ne hb, upd_ne hb2]
  have upd' : upd (upd H dx (.own p)) p (.ins C dx []) dx = some (.own p) := by rw [upd_ne hne, upd_same]
  have keep : ∀ b o, H b = some o → upd (upd H dx (.own p)) p (.ins C dx []) b = some o := fun b o e => by
    rw [up b (ne_of_none e hp) (ne_of_none e hd)]; exact e
  have keepN : ∀ b, H b ≠ none → upd (upd H dx (.own p)) p (.ins C dx []) b ≠ none := fun b e => by
    obtain ⟨o, ho⟩ := some_of_ne e
    rw [keep b o ho]; exact fun z => nomatch z
  have hads : (s.cs ++ [Cell.tr (.nd (.obj C dx []) p [])]).flatMap Cell.ads = s.cs.flatMap Cell.ads ++ [p, dx] := by
    rw [List.flatMap_append]; rfl
  have memN : ∀ b, b ∈ (s.cs ++ [Cell.tr (.nd (.obj C dx []) p [])]).flatMap Cell.ads → b ∈ s.cs.flatMap Cell.ads ∨ b = p ∨ b = dx := fun b hb => by
    rw [hads] at hb
    simpa using hb
  have hlen := r.len
  have inn : Inn B (ad ++ [p]) F (upd (upd H dx (.own p)) p (.ins C dx [])) (s.cs ++ [.tr (.nd (.obj C dx []) p [])]) := by
    refine ⟨?_, fun b hb i hi => ?_, fun b hb => ?_, fun b hb => ?_, r.inn.old⟩
    · rw [hads, List.nodup_append]
      refine ⟨r.inn.nd, ?_, fun a ha b hb e => ?_⟩
      · simp; exact fun z => hne z.symm
      · subst e
        have : a = p ∨ a = dx := by simpa using hb
        rcases this with rfl | rfl
        · exact f4 ha
        · exact g4 ha
    · by_cases hil : i < ad.length
      · rw [List.getElem?_append_left hil] at hi
        rw [List.getElem?_append_left (by omega)]
        rcases memN b hb with hb | rfl | rfl
        · exact r.inn.off b hb i hi
        · exact absurd (List.mem_of_getElem? hi) f3
        · exact absurd (List.mem_of_getElem? hi) g3
      · have hi2 : i = ad.length := by
          have := (List.getElem?_eq_some_iff.mp hi).1
          simp at this; omega
        subst hi2
        rw [List.getElem?_append_right (Nat.le_refl _)] at hi
        have e : b = p := by have := List.mem_of_getElem? hi; simpa using this
        subst e
        exact .inr ⟨.nd (.obj C dx []) b [], by rw [hlen, List.getElem?_append_right (Nat.le_refl _)]; simp, rfl⟩
    · rcases memN b hb with hb | rfl | rfl
      · exact ⟨(r.inn.fr b hb).1, keepN b (r.inn.fr b hb).2⟩
      · exact ⟨hFp, ne_none upd_same⟩
      · exact ⟨hFd, ne_none upd'⟩
    · rcases memN b hb with hb | rfl | rfl
      · exact r.inn.own b hb
      · exact .inr (.inr f1)
      · exact .inr (.inr g1)
  refine ⟨r.ff, fun b u e => keep b u (r.fh _ _ e), fun b u hb ht e => keep b u (r.hh b u hb ht e), fun b hb => keepN b (r.al b hb), r.new, ?_, ?_, by show (ad ++ [p]).length = (s.cs ++ [_]).length; simp [hlen], fun i b c h1 h2 => ?_, r.sln, fun k x hx => ?_, inn⟩
  · obtain ⟨ad', e, h1⟩ := r.pre
    refine ⟨ad' ++ [p], by rw [e]; simp, fun b hb => ?_⟩
    rcases List.mem_append.mp hb with hb | hb
    · exact h1 b hb
    · rw [List.mem_singleton] at hb; subst hb; exact f1
  · rw [List.nodup_append]
    exact ⟨r.nd, List.nodup_cons.mpr ⟨(fun z => nomatch z), List.nodup_nil⟩, fun b hb q hq e => by
      rw [List.mem_singleton] at hq; subst hq; subst e; exact f3 hb⟩
  · by_cases hi : i < ad.length
    · rw [List.getElem?_append_left hi] at h1
      have h2 : (s.cs ++ [Cell.tr (.nd (.obj C dx []) p [])])[i]? = some c := h2
      rw [List.getElem?_append_left (by omega)] at h2
      obtain ⟨n0, l, ok⟩ := r.cel i b c h1 h2
      exact ⟨keepN b n0, l, ok.mono ⟨[p], rfl⟩ (Same.refl _) (fun o' e => keep b o' e) fun b' hb' o ho => keep b' o ho⟩
    · have hi2 : i = ad.length := by
        have := (List.getElem?_eq_some_iff.mp h1).1
        simp at this; omega
      subst hi2
      rw [List.getElem?_append_right (Nat.le_refl _)] at h1
      have h2 : (s.cs ++ [Cell.tr (.nd (.obj C dx []) p [])])[ad.length]? = some c := h2
      rw [List.getElem?_append_right (by omega)] at h2
      have e1 : p = b := by simpa using h1
      have e2 : Cell.tr (.nd (.obj C dx []) p []) = c := by simpa [hlen] using h2
      subst e1; subst e2
      exact ⟨ne_none upd_same, (fun z => nomatch z), rfl, TrOk.of (vs := []) upd_same ⟨upd', rfl⟩ (show TrAll F _ [] [] from rfl)⟩
  · obtain ⟨v, h1, h2⟩ := r.slt k x hx
    exact ⟨v, h1, h2.mono ⟨[p], rfl⟩ (Same.refl _)⟩
end
/-! ### fields -/
def lookF (f : Str) : List Str → Option Nat
  | [] => none
  | g :: fs => if g = f then some 0 else (lookF f fs).map (· + 1)
def objN : Option (Nat × List Nat × Kd × Addr × List Tr) → Option (Nat × List Nat × Addr × Addr × List Str × Addr × List Tr)
  | some (n, pt, .obj C dx fs, q, ts) => some (n, pt, C, dx, fs, q, ts)
  | _ => none
def objAt (s : AS) (x : AVal) : Option (Nat × List Nat × Addr × Addr × List Str × Addr × List Tr) := objN (nodeAt s x)
section
variable {X : Cx} {B : Bs} {ad : List Addr} {F H : Hp} {s : AS} {σ : St} {x y : AVal} {u v : V} {o e value : Expr} {pos tpos apos : Pos} {ta tb tc : TEA} {f m : Str} {C dx q : Addr} {n : Nat} {pt : List Nat} {fs : List Str} {ts : List Tr} {es : List Expr} {tl : TLA} {t : SpT}
theorem objAt_ok (r : Rl B ad F H s σ) (h : VOk ad F x u) (e : objAt s x = some (n, pt, C, dx, fs, q, ts)) : ∃ t p vs, NodeAt ad F H s u n pt (.obj C dx fs) q ts t p vs := by
  unfold objAt at e
  cases hn : nodeAt s x with
  | none => rw [hn] at e; cases e
  | some N =>
    obtain ⟨n', pt', k, q', ts'⟩ := N
    rw [hn] at e
    cases k with
    | obj C' dx' fs' => cases e; exact nodeAt_ok r h hn
    | _ => cases e
theorem lookF_get : ∀ {fs : List Str} {vs : List V} {i : Nat} {w : V}, lookF f fs = some i → vs[i]? = some w → (fs.zip vs).lookup f = some w
  | [], vs, i, w, h, _ => by cases h
  | g :: fs, [], i, w, _, h => by simp at h
  | g :: fs, v :: vs, i, w, h, hw => by
    unfold lookF at h
    rw [List.zip_cons_cons, List.lookup_cons]
    split at h
    · rename_i e
      cases h
      have : v = w := by simpa using hw
      subst this
      rw [show (f == g) = true from beq_iff_eq.mpr e.symm]
    · rename_i e
      cases hl : lookF f fs with
      | none => rw [hl] at h; cases h
      | some j =>
        rw [hl] at h
        cases h
        rw [show (f == g) = false from beq_eq_false_iff_ne.mpr fun z => e z.symm]
        exact lookF_get hl (by simpa using hw)
theorem lookF_none : ∀ {fs : List Str} {vs : List V}, lookF f fs = none → (fs.zip vs).lookup f = none
  | [], vs, _ => by simp
  | g :: fs, [], _ => by simp
  | g :: fs, v :: vs, h => by
    unfold lookF at h
    rw [List.zip_cons_cons, List.lookup_cons]
    split at h
    · cases h
    · rename_i e
      rw [show (f == g) = false from beq_eq_false_iff_ne.mpr fun z => e z.symm]
      exact lookF_none (by
        cases hl : lookF f fs with
        | none => rfl
        | some j => rw [hl] at h; cases h)
theorem putF_new : ∀ {fs : List Str} {vs : List V} {w : V}, lookF f fs = none → fs.length = vs.length → putF f w (fs.zip vs) = (fs ++ [f]).zip (vs ++ [w])
  | [], [], w, _, _ => rfl
  | [], v :: vs, w, _, h => by cases h
  | g :: fs, [], w, _, h => by cases h
  | g :: fs, v :: vs, w, h, hl => by
    unfold lookF at h
    split at h
    · cases h
    · rename_i e
      show (if g = f then _ else (g, v) :: putF f w (fs.zip vs)) = _
      rw [if_neg e, putF_new (by
        cases hl : lookF f fs with
        | none => rfl
        | some j => rw [hl] at h; cases h) (by simpa using hl)]
      rfl
theorem putF_old : ∀ {fs : List Str} {vs : List V} {w : V} {i : Nat}, lookF f fs = some i → fs.length = vs.length → putF f w (fs.zip vs) = fs.zip (vs.set i w)
  | [], vs, w, i, h, _ => by cases h
  | g :: fs, [], w, i, _, h => by cases h
  | g :: fs, v :: vs, w, i, h, hl => by
    unfold lookF at h
    split at h
    · rename_i e
      cases h
      show (if g = f then (g, w) :: fs.zip vs else _) = _
      rw [if_pos e]; rfl
    · rename_i e
      cases hk : lookF f fs with
      | none => rw [hk] at h; cases h
      | some j =>
        rw [hk] at h
        cases h
        show (if g = f then _ else (g, v) :: putF f w (fs.zip vs)) = _
        rw [if_neg e, putF_old hk (by simpa using hl)]
        rfl
theorem lookF_lt : ∀ {fs : List Str} {i : Nat}, lookF f fs = some i → i < fs.length
  | [], i, h => by cases h
  | g :: fs, i, h => by
    unfold lookF at h
    split at h
    · cases h; simp
    · cases hk : lookF f fs with
      | none => rw [hk] at h; cases h
      | some j => rw [hk] at h; cases h; have := lookF_lt hk; simp; omega
/-- o.f -/
def attrA (C : Addr) (f : Str) (ta : TEA) : TEA := fun s Q => ta s fun x s1 => onSome (objAt s1 x) fun N => N.2.2.1 = C ∧ onSome (lookF f N.2.2.2.2.1) fun i => onSome (kids N.1 N.2.1 N.2.2.2.2.2.2)[i]? fun z => Q z s1
theorem ea_attr (c : Cls X.K C) (na : NoAttr X.K C f) (ha : EA X B o ta) (hb : attributeBase o f X.env (eval o X.env) = eval o X.env := by rfl) : EA X B (.Attribute o f pos) (attrA C f ta) := ⟨fun ad F H s σ Q r t =>
  we_of (pe_fld pe_we hb) ((ha.run ad F H s σ _ r t).imp fun u H1 q => by
    obtain ⟨ad1, F1, x, s1, e1, k1, r1, hx, ⟨n, pt, C', dx, fs, q0, ts⟩, hn, hC, i, hi, z, hz, q⟩ := q
    have hC : C' = C := hC
    subst hC
    obtain ⟨t0, p, vs, N⟩ := objAt_ok r1 hx hn
    obtain ⟨w, hw, hzw⟩ := Paired.get (kids_ok (ad := ad1) (n := n) (pt := pt) N.kids) hz
    exact ⟨q0, C', dx, _, w, N.val, N.ho, c, na, lookF_get hi hw, ad1, F1, z, s1, e1, k1, r1, hzw, q⟩)⟩
/-- o.f = e -/
def setO (g : Nat → Addr) (s : AS) (y : AVal) (cs : List Cell) (f : Str) (n : Nat) (pt : List Nat) (C dx : Addr) (fs : List Str) (q : Addr) (ts : List Tr) (t u : Tr) : Option Nat → AS
  | none => ⟨mvS g cs n (ts.length :: pt) y s.sl, cs.set n (.tr (t.put pt (.nd (.obj C dx (fs ++ [f])) q (ts ++ [u]))))⟩
  | some i => ⟨mvS g cs n (i :: pt) y s.sl, cs.set n (.tr (t.put pt (.nd (.obj C dx fs) q (ts.set i u))))⟩
def setFA (C : Addr) (f : Str) (tv ta : TEA) : TSA := fun D s => tv s fun y s1 => ta s1 fun x s2 => ∀ g : Nat → Addr, onSome (grab g s2.cs y) fun r => onSome (objAt ⟨s2.sl, r.2⟩ x) fun N => N.2.2.1 = C ∧ N.2.2.2.2.1.length < 1000 ∧ onSome (treeAt r.2 N.1) fun t => D.nx (setO g s2 y r.2 f N.1 N.2.1 C N.2.2.2.1 N.2.2.2.2.1 N.2.2.2.2.2.1 N.2.2.2.2.2.2 t r.1 (lookF f N.2.2.2.2.1))
theorem TrAll.snoc1 {F H : Hp} {ts : List Tr} {vs : List V} {u : Tr} {w : V} (h : TrAll F H ts vs) (hu : TrOk F H u w) : TrAll F H (ts ++ [u]) (vs ++ [w]) := h.append (us := [u]) (ws := [w]) (show ∃ v r, [w] = v :: r ∧ TrOk F H u v ∧ TrAll F H [] r from ⟨w, [], rfl, hu, rfl⟩)
theorem TrAll.setT {F H : Hp} {u : Tr} {w : V} (hu : TrOk F H u w) : ∀ {ts : List Tr} {vs : List V} (j : Nat), TrAll F H ts vs → TrAll F H (ts.set j u) (vs.set j w)
  | [], _, j, h => by obtain rfl := (show _ = [] from h); exact rfl
  | t :: ts, vs, j, h => by
    obtain ⟨v0, r, rfl, h1, h2⟩ := (show ∃ v r, vs = v :: r ∧ TrOk F H t v ∧ TrAll F H ts r from h)
    cases j with
    | zero => exact ⟨w, r, rfl, hu, h2⟩
    | succ j => exact ⟨v0, r.set j w, rfl, h1, TrAll.setT hu j h2⟩
theorem sa_setF (c : Cls X.K C) (na : NoAttr X.K C f) (hv : EA X B value tc) (ha : EA X B o ta) (hs : swapsWith value (some (.Attribute o f apos)) pos.line X.env = pure false := by rfl) : SA X B (.Assign [.Attribute o f apos] value pos) (setFA C f tc ta) := ⟨fun D s h ad F H σ r =>
  ws_of (ps_fld pe_we pe_we hs) ((hv.run ad F H s σ _ r h).imp fun w H1 q => by
    obtain ⟨ad1, F1, y, s1, e1, k1, r1, hy, q⟩ := q
    refine (ha.run ad1 F1 H1 s1 σ _ r1 q).imp fun u H2 q => ?_
    obtain ⟨ad2, F2, x, s2, e2, k2, r2, hx, q⟩ := q
    have hf := adF ad2
    obtain ⟨⟨tr, cs2⟩, hg, ⟨n, pt, C', dx, fs, q0, ts⟩, hn, hC, hl, t, ht, q⟩ := q (fun i => (ad2[i]?).getD 0)
    have hC : C' = C := hC
    subst hC
    obtain ⟨r3, L3, t3⟩ := grab_ok (sl := s2.sl) r2 (Loose.nil r2) hf (hy.mono e2 k2) hg
    rw [List.nil_append] at L3
    obtain ⟨t0, p, vs, N⟩ := objAt_ok r3 hx hn
    have htt : t0 = t := by
      have := treeAt_of N.cell
      rw [show treeAt cs2 n = some t from ht] at this
      exact (Option.some.inj this).symm
    subst htt
    have hval := N.val
    subst hval
    have hside : H2 dx = some (.own q0) ∧ fs.length = ts.length := N.side
    have hlv : fs.length = vs.length := hside.2.trans N.kids.length.symm
    have hlz : (fs.zip vs).length < 1000 := by rw [List.length_zip]; have : fs.length < 1000 := hl; omega
    refine ⟨q0, C', dx, fs.zip vs, rfl, N.ho, c, na, hlz, ?_⟩
    cases hlk : lookF f fs with
    | none =>
      have q : D.nx (setO _ s2 y cs2 f n pt C' dx fs q0 ts t0 tr (lookF f fs)) := q
      rw [hlk] at q
      have r4 := r3.mvS (ccs := cs2) (n := n) (pt := ts.length :: pt) hf y
      have N2 : NodeAt ad2 F2 H2 ⟨mvS (fun i => (ad2[i]?).getD 0) cs2 n (ts.length :: pt) y s2.sl, cs2⟩ (.ref q0) n pt (.obj C' dx fs) q0 ts t0 p vs := ⟨N.cell, N.root, N.here, rfl, N.ho, N.side, N.kids, N.tree⟩
      refine ⟨ad2, F2, _, ?_, q⟩
      rw [putF_new hlk hlv]
      exact r4.mutT (k' := .obj C' dx (fs ++ [f])) L3 N2 rfl (fun b => by rw [cntL_app]; exact Nat.le_refl _) (N.kids.snoc1 t3) ⟨hside.1, by simp [hside.2]⟩
    | some i =>
      have q : D.nx (setO _ s2 y cs2 f n pt C' dx fs q0 ts t0 tr (lookF f fs)) := q
      rw [hlk] at q
      have r4 := r3.mvS (ccs := cs2) (n := n) (pt := i :: pt) hf y
      have N2 : NodeAt ad2 F2 H2 ⟨mvS (fun i => (ad2[i]?).getD 0) cs2 n (i :: pt) y s2.sl, cs2⟩ (.ref q0) n pt (.obj C' dx fs) q0 ts t0 p vs := ⟨N.cell, N.root, N.here, rfl, N.ho, N.side, N.kids, N.tree⟩
      refine ⟨ad2, F2, _, ?_, q⟩
      rw [putF_old hlk hlv]
      have hil : i < ts.length := by have := lookF_lt hlk; omega
      refine r4.mutT (k' := .obj C' dx fs) L3 N2 rfl (fun b => ?_) (TrAll.setT t3 i N.kids) ⟨hside.1, by rw [List.length_set]; exact hside.2⟩
      have := cntL_set (u := tr) (List.getElem?_eq_getElem hil) b
      rw [cntL_cons, cntL_nil]
      omega)⟩
/-! ### objects made -/
def makeO (C : Addr) (t : SpT) (tl : TLA) : TEA := fun s Q => tl s fun xs s1 => ∀ p dx : Addr, callW t (.r s1.cs.length :: xs) ⟨s1.sl, s1.cs ++ [.tr (.nd (.obj C dx []) p [])]⟩ fun rv s2 => rv = .f .none ∧ Q (.r s1.cs.length) s2
theorem spA_imp {n : Nat} {t : SpT} {vs : List V} {H : Hp} {Q Q' : VK} {E : XK} (h : spA n t vs H Q E) (k : ∀ v H', Q v H' → Q' v H') : spA n t vs H Q' E := by
  obtain ⟨F, ad, cs, xs, P, h1, h2, h3, h4, h5⟩ := h
  exact ⟨F, ad, cs, xs, P, h1, h2, h3, h4, fun v H2 hp => k _ _ (h5 v H2 hp)⟩
variable {k : Nat} {fa : Addr} {fd : FuncData} {ps : List Str} {xn : Str} {p : Pos}
theorem make_post {ad : List Addr} {F H : Hp} {s : AS} {xs : List AVal} {vs : List V} {Q : VQ} {x dx : Addr} {nn : Nat} (hn : vs.length + 1 = nn) (r : Rl B ad F H s σ) (hv : Paired (VOk ad F) xs vs) (hx : H x = none) (hdx : H dx = none) (hne : dx ≠ x)
    (h : callW t (.r s.cs.length :: xs) ⟨s.sl, s.cs ++ [.tr (.nd (.obj C dx []) x [])]⟩ fun rv s2 => rv = .f .none ∧ Q (.r s.cs.length) s2) : spA nn t (.ref x :: vs) (upd (upd H dx (.own x)) x (.ins C dx [])) (fun v H2 => v = .non ∧ Post B ad F σ Q (.ref x) H2) E0 := by
  have r1 := r.newO (C := C) hx hdx hne
  have hself : (ad ++ [x])[s.cs.length]? = some x := by rw [← r.len]; simp
  refine call_post (by simpa using hn) r1 (.cons (show VOk (ad ++ [x]) F (.r s.cs.length) (.ref x) from ⟨x, hself, rfl⟩) (Paired.imp hv fun _ _ h => h.mono ⟨[x], rfl⟩ (Same.refl _))) h (fun F2 H2 y v s2 r2 k2 hd hp => ?_) (fun F2 H2 H3 c p o s2 r2 k2 hp e3 ok hl hP => nomatch hP.1) (fun F2 H2 t p s2 _ _ _ h => nomatch h.1) (fun F2 H2 k n p s2 _ _ _ _ h => nomatch h.1) (fun F2 H2 ex new ad' ys ws p s2 _ _ _ _ _ _ _ h => nomatch h.1)
  obtain ⟨hy, q⟩ := hp
  cases hy
  exact ⟨hd, ad ++ [x], F2, .r s.cs.length, s2, ⟨[x], rfl⟩, k2, r2, ⟨x, hself, rfl⟩, q⟩
theorem ea_make (M : Mk X.K C fa) (G : FnOk X.prog X.w X.K X.mg X.base CX0 k fa fd ps (spA n t)) (hr : Room (k + 1) X.A) (hm : X.mg xn = some (.ref C)) (hb : Binds X.K fd ps []) (ha : EL X B (e :: es) tl)
    (hn : (e :: es).length + 1 = n := by rfl) (hg : Gl X xn := by rfl) (hdb : (xn == ("__debug__" : Str)) = false := by decide) (l : Pl X e es pos := by exact ⟨rfl, rfl⟩) : EA X B (.Call (.Name xn p) (e :: es) [] pos) (makeO C t tl) := ⟨fun ad F H s σ Q r h =>
  we_of (pe_make M G hr hg hm hb .nil pass0 pa_wa hdb l.he l.hpl) ((ha.run ad F H s σ _ r h).imp fun vs H1 q => by
    obtain ⟨ad1, F1, xs, s1, e1, k1, r1, hv, hxl, q⟩ := q
    intro x dx hx hdx hne
    show spA n t (.ref x :: (vs ++ [])) _ _ E0
    rw [List.append_nil]
    have hl : vs.length + 1 = n := by rw [← Paired.len hv, hxl]; exact hn
    have := make_post hl r1 hv hx hdx hne (q x dx)
    exact spA_imp this fun v H2 hp => ⟨hp.1, hp.2.up e1 k1⟩)⟩
/-! ### methods -/
def methF (C : Addr) (m : Str) (t : SpT) (ta : TEA) (tl : TLA) : TEA := fun s Q => ta s fun x s1 => onSome (objAt s1 x) fun N => N.2.2.1 = C ∧ lookF m N.2.2.2.2.1 = none ∧ tl s1 fun xs s2 => callW t (x :: xs) s2 (resF Q)
def methO (C : Addr) (m : Str) (t : SpT) (ta : TEA) (tl : TLA) : TEA := fun s Q => ta s fun x s1 => onSome (objAt s1 x) fun N => N.2.2.1 = C ∧ lookF m N.2.2.2.2.1 = none ∧ tl s1 fun xs s2 => callW t (x :: xs) s2 (resO (refsOf (x :: xs)) Q)
theorem fend {Q : VQ} {ad : List Addr} {F H : Hp} {s : AS} {xs : List AVal} {vs : List V} {nn : Nat} (hn : vs.length = nn) (r : Rl B ad F H s σ) (hv : Paired (VOk ad F) xs vs) (q : callW t xs s (resF Q)) : spA nn t vs H (Post B ad F σ Q) E0 :=
  call_post hn r hv q (fun F2 H2 y v s2 r2 k2 hd hp => ⟨ad, F2, .d y, s2, Ext.refl _, k2, r2, hd, hp⟩)
    (fun F2 H2 H3 c p o s2 r2 k2 hp e3 ok hl hP => PostN.frz (Q := Q) ⟨ad, F2, c, s2, p, H2, o, Ext.refl _, k2, r2, rfl, hp, e3, ok, hl, hP⟩) (fun F2 H2 t p s2 _ _ _ h => h.elim) (fun F2 H2 k n p s2 _ _ _ _ h => h.elim) (fun F2 H2 ex new ad' ys ws p s2 _ _ _ _ _ _ _ h => h.elim)
theorem obj_meth {pl : Sem Bool} (c : Cls X.K C) (hm : Meth X.K C m fa) (G : FnOk X.prog X.w X.K X.mg X.base CX0 k fa fd ps (spA n t)) (hr : Room k X.A) (hb : Binds X.K fd ps []) (ho : EA X B o ta) (ha : EL X B (e :: es) tl) (hn : (e :: es).length + 1 = n)
    (hst : starEach (e :: es) X.env = (false, eval e X.env) :: starEach es X.env) (hpl : (backTo pos (starEach es X.env)).any (·.1) = false)
    (ht : eval (.Call (.Attribute o m apos) (e :: es) [] pos) X.env = (do
      let ov ← eval o X.env
      standAt apos.atName
      let (f, first) ← holding [ov] (getMethod ov m pl)
      callWith pos f first (backTo pos (starEach (e :: es) X.env)) (backToKw pos (keywordEach [] X.env))))
    {ad : List Addr} {F H : Hp} {s : AS} {P : List AVal → AS → Prop} {K : VK} (r : Rl B ad F H s σ) (h : ta s fun x s1 => onSome (objAt s1 x) fun N => N.2.2.1 = C ∧ lookF m N.2.2.2.2.1 = none ∧ tl s1 fun xs s2 => P (x :: xs) s2)
    (fin : ∀ ad2 F2 H2 s2 xs vs, Ext ad ad2 → Same F F2 → Rl B ad2 F2 H2 s2 σ → Paired (VOk ad2 F2) xs vs → vs.length = n → P xs s2 → spA n t vs H2 K E0) : WE X (.Call (.Attribute o m apos) (e :: es) [] pos) σ H K :=
  we_of (pe_meth pe_we c hm G hr hb .nil pass0 pa_wa hst hpl ht) ((ho.run ad F H s σ _ r h).imp fun u H1 q => by
    obtain ⟨ad1, F1, x, s1, e1, k1, r1, hx, ⟨n0, pt, C', dx, fs, q0, ts⟩, hN, hC, hl, q⟩ := q
    have hC : C' = C := hC
    subst hC
    obtain ⟨t0, p, vs, N⟩ := objAt_ok r1 hx hN
    refine ⟨q0, dx, _, N.val, N.ho, lookF_none hl, (ha.run ad1 F1 H1 s1 σ _ r1 q).imp fun ws H2 q => ?_⟩
    obtain ⟨ad2, F2, xs, s2, e2, k2, r2, hv, hxl, q⟩ := q
    show spA n t (u :: (ws ++ [])) H2 _ E0
    rw [List.append_nil]
    exact fin ad2 F2 H2 s2 (x :: xs) (u :: ws) (e1.trans e2) (k1.trans k2) r2 (.cons (hx.mono e2 k2) hv) (by rw [List.length_cons, ← Paired.len hv, hxl]; exact hn) q)
theorem ea_methF {pl : Sem Bool} (c : Cls X.K C) (hm : Meth X.K C m fa) (G : FnOk X.prog X.w X.K X.mg X.base CX0 k fa fd ps (spA n t)) (hr : Room k X.A) (hb : Binds X.K fd ps []) (ho : EA X B o ta) (ha : EL X B (e :: es) tl) (hn : (e :: es).length + 1 = n := by rfl)
    (hst : starEach (e :: es) X.env = (false, eval e X.env) :: starEach es X.env := by rfl) (hpl : (backTo pos (starEach es X.env)).any (·.1) = false := by rfl)
    (ht : eval (.Call (.Attribute o m apos) (e :: es) [] pos) X.env = (do
      let ov ← eval o X.env
      standAt apos.atName
      let (f, first) ← holding [ov] (getMethod ov m pl)
      callWith pos f first (backTo pos (starEach (e :: es) X.env)) (backToKw pos (keywordEach [] X.env))) := by rfl) : EA X B (.Call (.Attribute o m apos) (e :: es) [] pos) (methF C m t ta tl) := ⟨fun ad F H s σ Q r h =>
  obj_meth c hm G hr hb ho ha hn hst hpl ht (P := fun xs s2 => callW t xs s2 (resF Q)) r h fun ad2 F2 H2 s2 xs vs e2 k2 r2 hv hl q => spA_imp (fend hl r2 hv q) fun v H3 hp => hp.up e2 k2⟩
end
end Kr
/-! layer A40 -/
namespace Kr
open PySem L2
/-! ## dicts that hang in trees -/
def dcN : Option (Nat × List Nat × Kd × Addr × List Tr) → Option (Nat × List Nat × List Key × Addr × List PyData)
  | some (n, pt, .dct ks, q, ts) => (leafs ts).map fun ds => (n, pt, ks, q, ds)
  | _ => none
def dcAt (s : AS) (x : AVal) : Option (Nat × List Nat × List Key × Addr × List PyData) := dcN (nodeAt s x)
/-- a dict of data, as a node -/
def dctK (q : Addr) (kvs : List (Key × PyData)) : Tr := .nd (.dct (kvs.map (·.1))) q (kvs.map fun p => .d p.2)
section
variable {X : Cx} {B : Bs} {ad : List Addr} {F H : Hp} {s : AS} {σ : St} {x y : AVal} {u v : V} {o e value a b : Expr} {pos tpos apos cpos py p p1 spos : Pos} {ta tb tc : TEA} {f m : Str} {C dx q : Addr} {n : Nat} {pt : List Nat} {fs : List Str} {ts : List Tr} {es : List Expr} {tl : TLA} {t : TSA}
theorem leafs_eq : ∀ {ts : List Tr} {ds : List PyData}, leafs ts = some ds → ts = ds.map .d
  | [], ds, e => by cases e; rfl
  | .d x :: ts, ds, e => by
    have e' : (leafs ts).map (x :: ·) = some ds := e
    cases hl : leafs ts with
    | none => rw [hl] at e'; cases e'
    | some l => rw [hl] at e'; cases e'; rw [leafs_eq hl]; rfl
  | .nd _ _ _ :: _, _, e => by cases e
theorem dcAt_ok {ks : List Key} {ds : List PyData} (r : Rl B ad F H s σ) (h : VOk ad F x u) (e : dcAt s x = some (n, pt, ks, q, ds)) : ∃ t p vs, NodeAt ad F H s u n pt (.dct ks) q (ds.map .d) t p vs ∧ DaAll F ds vs := by
  unfold dcAt at e
  cases hn : nodeAt s x with
  | none => rw [hn] at e; cases e
  | some N =>
    obtain ⟨n', pt', k, q', ts'⟩ := N
    rw [hn] at e
    cases k with
    | dct ks' =>
      have e : (leafs ts').map (fun ds => (n', pt', ks', q', ds)) = some (n, pt, ks, q, ds) := e
      cases hl : leafs ts' with
      | none => rw [hl] at e; cases e
      | some ds' =>
        rw [hl] at e
        cases e
        obtain ⟨t, p, vs, N⟩ := nodeAt_ok r h hn
        have hd := leafs_ok hl N.kids
        rw [leafs_eq hl] at N
        exact ⟨t, p, vs, N, hd⟩
    | _ => cases e
theorem kvOk_zip : ∀ {ks : List Key} {ds : List PyData} {vs : List V}, DaAll F ds vs → KvOk F (ks.zip ds) (ks.zip vs)
  | [], ds, vs, _ => by rw [List.zip_nil_left, List.zip_nil_left]; exact .nil
  | k :: ks, [], vs, h => by obtain rfl := (show vs = [] from h); rw [List.zip_nil_right, List.zip_nil_right]; exact .nil
  | k :: ks, d :: ds, vs, h => by
    obtain ⟨v, r, rfl, h1, h2⟩ := (show ∃ v r, vs = v :: r ∧ Da F d v ∧ DaAll F ds r from h)
    exact .cons ⟨rfl, h1⟩ (kvOk_zip h2)
/-- d[k] = v -/
def putN (tv to ti : TEA) : TSA := fun D s => tv s fun v s1 => to s1 fun x s2 => ti s2 fun y s3 => onSome (dcAt s3 x) fun N => onSome y.key? fun k => onSome v.data? fun d => onSome (treeAt s3.cs N.1) fun t => N.2.2.2.2.length < sizeLine ∧ D.nx ⟨s3.sl, s3.cs.set N.1 (.tr (t.put N.2.1 (dctK N.2.2.2.1 (putA (N.2.2.1.zip N.2.2.2.2) k d))))⟩
theorem sa_putN (hu : X.A.units + 64 < cLine) (hv : EA X B value tc) (ho : EA X B o ta) (hi : EA X B e tb) (hs : swapsWith value (some (.Subscript o e tpos)) pos.line X.env = pure false := by rfl) : SA X B (.Assign [.Subscript o e tpos] value pos) (putN tc ta tb) := ⟨fun D s h ad F H σ r =>
  ws_of (ps_dput (by omega) pe_we pe_we pe_we hs) ((hv.run ad F H s σ _ r h).imp fun w H1 q => by
    obtain ⟨ad1, F1, v, s1, e1, k1, r1, hv1, q⟩ := q
    refine (ho.run ad1 F1 H1 s1 σ _ r1 q).imp fun u H2 q => ?_
    obtain ⟨ad2, F2, x, s2, e2, k2, r2, hx, q⟩ := q
    refine (hi.run ad2 F2 H2 s2 σ _ r2 q).imp fun z H3 q => ?_
    obtain ⟨ad3, F3, y, s3, e3, k3, r3, hy, q⟩ := q
    obtain ⟨⟨n, pt, ks, q0, ds⟩, hn, k, ek, d, ed, t, ht, hl, qq⟩ := q
    have := AVal.data?_of ed
    subst this
    obtain ⟨t0, p, vs, N, hda⟩ := dcAt_ok r3 (hx.mono e3 k3) hn
    have := AVal.key?_ok ek hy
    subst this
    have := N.val
    subst this
    have htt : t0 = t := by
      have := treeAt_of N.cell
      rw [show treeAt s3.cs n = some t from ht] at this
      exact (Option.some.inj this).symm
    subst htt
    have hw : Da F3 d w := Da.mono (k2.trans k3) hv1
    have hkv := put_pair (R := Da F3) (k := k) (kvOk_zip (ks := ks) hda) hw
    obtain ⟨z1, z2⟩ := kv_zip (H := H3) hkv
    have hlen := hda.length
    refine ⟨q0, _, rfl, DPut.k N.ho (by rw [List.length_zip]; have : ds.length < sizeLine := hl; omega), ad3, F3, _, ?_, qq⟩
    rw [z1]
    have hc : ∀ b, (Tr.addrsL ((putA (ks.zip ds) k d).map fun p => Tr.d p.2)).count b ≤ (Tr.addrsL (ds.map Tr.d)).count b + (Tr.addrsL []).count b := fun b => by
      have := cntL_leafs ((putA (ks.zip ds) k d).map (·.2)) b
      rw [List.map_map] at this
      have e : ((putA (ks.zip ds) k d).map fun p => Tr.d p.2) = (putA (ks.zip ds) k d).map (Tr.d ∘ fun x => x.2) := rfl
      rw [e, this]
      exact Nat.zero_le _
    exact r3.mutT (k' := .dct ((putA (ks.zip ds) k d).map (·.1))) (Loose.nil r3) N rfl hc z2 (by show ((putA (ks.zip ds) k d).map (·.1)).length = (((putA (ks.zip ds) k d).map fun p => Tr.d p.2)).length; simp))⟩
/-! ### ints -/
def bitsA (to : TEA) : TEA := fun s Q => to s fun x s1 => onSome x.int? fun i => Q (.d (.int (Builtin.Int.intBits i : Nat))) s1
theorem ea_bits (ho : EA X B o ta) (hbase : attributeBase o "bit_length" X.env (eval o X.env) = eval o X.env := by rfl) (hline : (apos.endLine == pos.line) = true := by rfl) : EA X B (.Call (.Attribute o "bit_length" apos) [] [] pos) (bitsA ta) := ⟨fun ad F H s σ Q r t =>
  we_of (pe_bits pe_we hbase hline) ((ho.run ad F H s σ _ r t).imp fun u H1 q => by
    obtain ⟨ad1, F1, x, s1, e1, k1, r1, hx, i, ei, q⟩ := q
    have := AVal.int?_of ei
    subst this
    exact ⟨i, hx, ad1, F1, .d (.int (Builtin.Int.intBits i : Nat)), s1, e1, k1, r1, rfl, q⟩)⟩
/-- name op= e, of ints -/
def augN (g : Int → Int → Int) (k : Nat) (te : TEA) : TSA := fun D s => onSome (s.sl[k]?.bind id) fun x => onSome x.int? fun i => te s fun y s1 => onSome y.int? fun j => D.nx ⟨s1.sl.set k (some (.d (.int (g i j)))), s1.cs⟩
/-! ### {k: v} -/
def dispA (tk tv : TEA) : TEA := fun s Q => tk ⟨s.sl, s.cs ++ [.dK []]⟩ fun x s1 => tv s1 fun y s2 => onSome x.key? fun k => onSome y.data? fun d => s2.cs[s.cs.length]? = some (.dK []) ∧ Q (.r s.cs.length) ⟨s2.sl, s2.cs.set s.cs.length (.dK [(k, d)])⟩
theorem ea_disp (hk : EA X B a ta) (hv : EA X B b tb) : EA X B (.Dict [some a] [b] pos) (dispA ta tb) := ⟨fun ad F H s σ Q r t =>
  we_of (pe_disp (pps_cons pe_we pe_we pps_nil) rfl rfl (by simp) (Nat.le_of_ble_eq_true rfl)) fun p0 hp => by
    have r0 := r.push (o := .dK []) (c := .dK []) hp ⟨[], upd_same, .nil⟩
    have h0 : (ad ++ [p0])[s.cs.length]? = some p0 := by rw [← r.len]; simp
    refine (hk.run _ F _ _ σ _ r0 t).imp fun u H1 q => ?_
    obtain ⟨ad1, F1, x, s1, e1, k1, r1, hx, q⟩ := q
    refine (hv.run ad1 F1 H1 s1 σ _ r1 q).imp fun w H2 q => ?_
    obtain ⟨ad2, F2, y, s2, e2, k2, r2, hy, k, ek, d, ed, hc, q⟩ := q
    have := AVal.data?_of ed
    subst this
    have := AVal.key?_ok ek hx
    subst this
    have hpc := ext_get (e1.trans e2) h0
    obtain ⟨_, _, es0, g1, g2⟩ := r2.cel _ p0 _ hpc hc
    cases g2
    refine ⟨g1, [(k, w)], rfl, Nat.le_of_ble_eq_true rfl, ad2, F2, .r s.cs.length, _, Ext.trans ⟨[p0], rfl⟩ (e1.trans e2), k1.trans k2, r2.put (c := .dK [(k, d)]) hpc hc rfl ⟨[(k, w)], upd_same, .cons ⟨rfl, hy⟩ .nil⟩, ⟨p0, hpc, rfl⟩, q⟩⟩
/-! ### dicts told for good are walked where they stand -/
/-- nothing but dicts may be otherwise -/
def Agr (H H' : Hp) : Prop := ∀ q u, H q = some u → (∀ es, ¬ IsDk es u) → H' q = some u
theorem Agr.refl (H : Hp) : Agr H H := fun _ _ h _ => h
theorem Agr.upd {H : Hp} {d : Addr} {es : List (Key × V)} {o' : HO} (h : Rd H d (.dK es)) : Agr H (upd H d o') := fun q u hq hu => by
  rw [upd_ne (ne_dk h hq hu)]; exact hq
/-- an expression that tells data that stands there -/
structure Pk (X : Cx) (e : Expr) (pk : AS → Option PyData) : Prop where
  run : ∀ (B : Bs) ad F H s σ d, Rl B ad F H s σ → pk s = some d → ∃ v, Da F d v ∧ ∀ H', Agr H H' → ∀ K : VK, K v H' → WE X e σ H' K
def pkV (k : Nat) (s : AS) : Option PyData := (s.sl[k]?.bind id).bind AVal.data?
theorem pk_v (k : Nat) {x : Str} (hN : X.N[k]? = some x := by rfl) (hv : Vis X.env.scope x := by first | exact Or.inl rfl | exact Or.inr (Or.inl rfl) | exact Or.inr (Or.inr rfl)) (hd : (x == ("__debug__" : Str)) = false := by decide)
    (hcd : (x == ("__classdict__" : Str)) = false := by decide) : Pk X (.Name x pos) (pkV k) := ⟨fun B ad F H s σ d r h => by
  unfold pkV at h
  cases hy : s.sl[k]?.bind id with
  | none => rw [hy] at h; cases h
  | some y =>
    rw [hy] at h
    have := AVal.data?_of h
    subst this
    obtain ⟨v, h1, h2⟩ := r.slt k _ (slot_some hy)
    exact ⟨v, h2, fun H' _ K hK => we_of (pe_var hN hv hd hcd) ⟨v, h1, hK⟩⟩⟩
def pkI (pa pb : AS → Option PyData) (s : AS) : Option PyData := match pa s, pb s with
  | some (.list ds), some (.int i) => L2.atI ds i
  | _, _ => none
theorem pk_i {pa pb : AS → Option PyData} (ha : Pk X a pa) (hb : Pk X b pb) (hs : PlainIx b := by exact fun _ _ => rfl) : Pk X (.Subscript a b pos) (pkI pa pb) := ⟨fun B ad F H s σ d r h => by
  unfold pkI at h
  split at h
  · rename_i ds i h1 h2
    obtain ⟨v1, d1, w1⟩ := ha.run B ad F H s σ _ r h1
    obtain ⟨v2, d2, w2⟩ := hb.run B ad F H s σ _ r h2
    obtain ⟨l, vs, rfl, g1, g2⟩ := (show ∃ a xs, v1 = .ref a ∧ F a = some (.lst xs) ∧ DaAll F ds xs from d1)
    obtain rfl : v2 = .int i := d2
    obtain ⟨w, hw, hd⟩ := g2.atI h
    refine ⟨w, hd, fun H' hA K hK => ?_⟩
    have hl : H' l = some (.lst vs) := hA l _ (r.fh _ _ g1) no_lst
    exact we_of (pe_ix ix_any pe_we pe_we hs) (w1 H' hA _ (w2 H' hA _ ⟨_, ix_list, l, vs, i, w, rfl, rfl, SqL.of hl, hw, hK⟩))
  · cases h⟩
def pkF (C : Addr) (f : Str) (k : Nat) (s : AS) : Option PyData := (s.sl[k]?.bind id).bind fun x => (objAt s x).bind fun N => if N.2.2.1 = C then (lookF f N.2.2.2.2.1).bind fun i => (kids N.1 N.2.1 N.2.2.2.2.2.2)[i]?.bind AVal.data? else none
theorem pk_f (c : Cls X.K C) (na : NoAttr X.K C f) (k : Nat) {x : Str} (hN : X.N[k]? = some x := by rfl) (hv : Vis X.env.scope x := by first | exact Or.inl rfl | exact Or.inr (Or.inl rfl) | exact Or.inr (Or.inr rfl)) (hd : (x == ("__debug__" : Str)) = false := by decide)
    (hcd : (x == ("__classdict__" : Str)) = false := by decide) (hb : attributeBase (.Name x p) f X.env (eval (.Name x p) X.env) = eval (.Name x p) X.env := by rfl) : Pk X (.Attribute (.Name x p) f pos) (pkF C f k) := ⟨fun B ad F H s σ d r h => by
  unfold pkF at h
  cases hy : s.sl[k]?.bind id with
  | none => rw [hy] at h; cases h
  | some y =>
    rw [hy, Option.bind_some] at h
    obtain ⟨u, h1, h2⟩ := r.slt k _ (slot_some hy)
    cases hn : objAt s y with
    | none => rw [hn] at h; cases h
    | some N =>
      obtain ⟨n, pt, C', dx, fs, q0, ts⟩ := N
      rw [hn, Option.bind_some] at h
      split at h
      · rename_i hC
        have hC : C' = C := hC
        subst hC
        cases hl : lookF f fs with
        | none => rw [hl] at h; cases h
        | some i =>
          rw [hl, Option.bind_some] at h
          obtain ⟨t0, p, vs, N⟩ := objAt_ok r h2 hn
          cases hz : (kids n pt ts)[i]? with
          | none => rw [hz] at h; cases h
          | some z =>
            rw [hz, Option.bind_some] at h
            have := AVal.data?_of h
            subst this
            obtain ⟨w, hw, hzw⟩ := Paired.get (kids_ok (ad := ad) (n := n) (pt := pt) N.kids) hz
            refine ⟨w, hzw, fun H' hA K hK => ?_⟩
            have ho : H' q0 = some (.ins C' dx (fs.zip vs)) := hA q0 _ N.ho fun e h => by rcases h with h | ⟨_, h⟩ <;> cases h
            exact we_of (pe_fld pe_we hb) (we_of (pe_var hN hv hd hcd) ⟨u, h1, q0, C', dx, _, w, N.val, ho, c, na, lookF_get hl hw, hK⟩)
      · cases h⟩
/-- what the walk over it tells -/
def iterP (pk : AS → Option PyData) : TIO := fun s Q => onSome (pk s) fun d => onSome (keysOf d) fun ds => Q ds (fun _ => True) s
theorem hiP {tg : Expr} {pk : AS → Option PyData} {d0 : Addr} {od : Obj} {kvs : List (PyData × PyData)} {es : List (Key × V)} (hwe : ∀ K : VK, K (.ref d0) H → WE X e σ H K)
    (r : Rl B ad F H s σ) (hF : F d0 = some (.frz od (.dK es))) (hk : DaKV F kvs es) (hz : es.length ≤ sizeLine) (hy : pk s = some (.dict kvs)) : HiD X B tg e (iterP pk) ad F H s σ := by
  intro Q R t k
  obtain ⟨y, hy2, ds, hds, q⟩ := t
  rw [hy] at hy2
  cases hy2
  obtain ⟨_, rfl⟩ := keysOf_d hds
  have hl : es.length = (kvs.map (·.1)).length := by rw [List.length_map]; exact daKV_len hk
  refine wi_of (pi_keys pe_we) (hwe _ ⟨d0, od, rfl, .inl ⟨es, r.fh _ _ hF, k (Itk d0 od es) ad F H s _ _ (Ext.refl _) (Same.refl _) r (fun B3 ad3 F3 H3 s3 σ3 _ k3 r3 _ => ?_) (by rw [← hl]; exact hz) q⟩⟩)
  obtain ⟨w1, w2⟩ := walk_keys (F3 := F3) (r3.fh _ _ (k3 _ _ hF)) hl (fun i d k v => daKV_key hk)
  refine ⟨fun i d e => ⟨(w1 i d e).1, fun x H4 y => ?_⟩, w2⟩
  obtain ⟨rfl, hd⟩ := (w1 i d e).2 x H4 y
  exact ⟨F3, .refl r3.fh, hd⟩
theorem ws_dictP {tg : Expr} {st : Stmt} {D : DA} {pk : AS → Option PyData} (hp : Pk X e pk) {d : PyData} (hy : pk s = some d) (hds : ∃ ds, keysOf d = some ds)
    (r : Rl B ad F H s σ) (main : ∀ (F0 H0 F1 H1 : Hp), Rl ⟨B.S, F0, H0, B.T⟩ ad F1 H1 s σ → HiD X ⟨B.S, F0, H0, B.T⟩ tg e (iterP pk) ad F1 H1 s σ → WS X st (liftD ⟨B.S, F0, H0, B.T⟩ D) σ H1) : WS X st (liftD B D) σ H := by
  obtain ⟨ds, hds⟩ := hds
  obtain ⟨v, hvo, hwe⟩ := hp.run B ad F H s σ d r hy
  cases d with
  | dict kvs =>
    obtain ⟨a, es, rfl, hr, hkv⟩ := Da.dict hvo (keysOf_d hds).1
    intro pins sh I
    have hz : es.length ≤ sizeLine := ((Rd.up r.fh hr).ok I.hok).1
    rcases hr with hr | ⟨od, hr⟩
    · refine ws_of (ps_lock ps_ws) ⟨a, .dK es, r.fh _ _ hr, trivial, fun od => ?_⟩ pins sh I
      refine ends_unlock r hr ?_
      have hA : Agr H (upd H a (.frz od (.dK es))) := Agr.upd (.inl (r.fh _ _ hr))
      rw [← sw_upd (ne_none (r.fh _ _ hr))] at hA ⊢
      have r1 := r.lock (o := .frz od (.dK es)) (.inl hr) (.inr ⟨od, rfl⟩)
      exact main _ _ _ _ r1 (hiP (hwe _ hA) r1 (sw_at (ne_none hr)) (DaKV.sw (.inl hr) (.inr ⟨od, rfl⟩) hkv) hz hy)
    · exact main B.F0 B.H0 F H r (hiP (hwe _ (Agr.refl H)) r hr hkv hz hy) pins sh I
  | _ => cases hds
theorem iterP_some {pk : AS → Option PyData} {s : AS} {Q : List PyData → (List Cell → Prop) → AS → Prop} (h : iterP pk s Q) : ∃ d, pk s = some d ∧ ∃ ds, keysOf d = some ds := by
  obtain ⟨y, hy, ds, hds, _⟩ := h
  exact ⟨y, hy, ds, hds⟩
variable {elt tg c : Expr} {scope : Scope} {yn : Str} {g : TGA} {tt : TTA} {te : TEA} {ks : List Nat} {pk : AS → Option PyData} {body : List Stmt}
theorem sa_setLcIfPF (k : Nat) (hp : Pk X e pk) (own : List (Str × Nat)) (lo : LcOk X scope own e) (hg : ∀ s H0 C cl fp, GT (Blk X scope s H0 C cl fp) tg ks g) (ht : ∀ s H0 C cl fp B', ET (Blk X scope s H0 C cl fp) B' c tt) (he : ∀ s H0 C cl fp B', EA (Blk X scope s H0 C cl fp) B' elt te)
    (hk : ∀ k ∈ ks, k ∈ own.map (·.2) := by decide) (hy : X.N[k]? = some yn := by rfl) (hyl : X.env.scope.names.lookup yn = some .local := by rfl)
    (hsw : swapsWith (.ListComp elt [⟨tg, e, [c], 0⟩] scope pos) (some (.Name yn py)) spos.line X.env = pure true := by exact sw_true rfl rfl rfl (by decide +kernel)) :
    SA X B (.Assign [.Name yn py] (.ListComp elt [⟨tg, e, [c], 0⟩] scope pos) spos) (setA k (frzA (lcN (iterP pk) g tt te (own.map (·.2))))) := ⟨fun D s h ad F H σ r => by
  have h' := h
  unfold setA frzA lcN at h'
  obtain ⟨z, hz, hds⟩ := iterP_some h'
  refine ws_dictP (tg := tg) hp hz hds r fun F0 H0 F1 H1 r1 hi => ?_
  exact ws_of (ps_setLc (g := gB X scope tg) (tt := tB' X scope c) (te := eB X scope elt) lo.calm lo.nd hy hyl hsw pi_wi (blkOk_by lo.ok) (fun s H0 C cl fp => ⟨fun pins s' σ H v u Q I r h => h s H0 C cl fp pins s' u I r⟩) (fun s H0 C cl fp => pts_one ⟨fun pins s' σ H Q I h => h s H0 C cl fp pins s' I⟩) (fun s H0 C cl fp => ⟨fun pins s' σ H Q I h => h s H0 C cl fp pins s' I⟩) lo.fs)
    (lc_coreB (B := ⟨B.S, F0, H0, B.T⟩) (Q := fun c s1 => onSome (frzC c) fun d => D.nx ⟨s1.sl.set k (some (.d d)), s1.cs⟩) hg hk (fun B' ad F H s σ Q r t s0 H0 C cl fp => (ht s0 H0 C cl fp B').run ad F H s σ Q r t) (fun σ H Q Q' h k s0 H0 C cl fp => (h s0 H0 C cl fp).imp k) he hi r1 h fun v H' p => by
      obtain ⟨ad1, F1, y, s1, e1, k1, r1, hv, q⟩ := PostN.frz (Q := fun x s1 => D.nx ⟨s1.sl.set k (some x), s1.cs⟩) p
      exact ⟨ad1, F1, _, r1.set hv, q⟩)⟩
/-- for x in e -/
def forPA (m : Nat) (pk : AS → Option PyData) (g : TGA) (t : TSA) : TSA := fun D s => onSome (pk s) fun d => onSome (keysOf d) fun ds => forW m (okG (fun _ => True) g) t D ds s
theorem sa_forP (hp : Pk X e pk) (hpo : PassesOwn (model X.prog X.w) X.A X.env X.xe) (hc : X.calm = true) (hg : GT X tg ks g) (hb : ∀ F0 H0, SS X ⟨B.S, F0, H0, B.T⟩ body t) (hs : ∀ y, foldedSetIterable e X.env y = pure y := by intro _; rfl) :
    SA X B (.For tg e body [] pos) (forPA B.S.length pk g t) := ⟨fun D s h ad F H σ r => by
  obtain ⟨d, hy, ds, hds, q⟩ := h
  obtain ⟨v, hvo, hwe⟩ := hp.run B ad F H s σ d r hy
  have core : ∀ (F0 H0 F1 H1 : Hp) (a : Addr) (od : Obj) (es : List (Key × V)), (∀ K : VK, K (.ref a) H1 → WE X e σ H1 K) → H1 a = some (.frz od (.dK es)) → Rl ⟨B.S, F0, H0, B.T⟩ ad F1 H1 s σ →
      (∀ ad3 F3 H3 s3 σ3, Same F1 F3 → Rl ⟨B.S, F0, H0, B.T⟩ ad3 F3 H3 s3 σ3 → H3 a = some (.frz od (.dK es))) → es.length = ds.length → (∀ (i : Nat) d k v, ds[i]? = some d → es[i]? = some (k, v) → KeyD d k) → WS X (.For tg e body [] pos) (liftD ⟨B.S, F0, H0, B.T⟩ D) σ H1 := by
    intro F0 H0 F1 H1 a od es hw hH r1 hok hl hk
    refine ws_of (ps_for hpo hc (pi_keys pe_we) pg_wg pss_wss hs) (hw _ ⟨a, od, rfl, .inl ⟨es, hH, ?_⟩⟩)
    exact for_core (B := ⟨B.S, F0, H0, B.T⟩) hg hb r1 (fun ad3 F3 H3 s3 σ3 k3 r3 _ => walk_keys (hok ad3 F3 H3 s3 σ3 k3 r3) hl hk) q fun _ _ => trivial
  cases d with
  | dict kvs =>
    obtain ⟨nx, rfl⟩ := keysOf_d hds
    obtain ⟨a, es, rfl, hr, hkv⟩ := Da.dict hvo nx
    have hl : es.length = (kvs.map (·.1)).length := by rw [List.length_map]; exact daKV_len hkv
    rcases hr with hr | ⟨od, hr⟩
    · refine ws_of (ps_lock ps_ws) ⟨a, .dK es, r.fh _ _ hr, trivial, fun od => ?_⟩
      refine ends_unlock r hr ?_
      have hA : Agr H (upd H a (.frz od (.dK es))) := Agr.upd (.inl (r.fh _ _ hr))
      have r1 := r.lock (o := .frz od (.dK es)) (.inl hr) (.inr ⟨od, rfl⟩)
      have hH1 : sw H a (.frz od (.dK es)) a = some (.frz od (.dK es)) := sw_at (ne_none (r.fh _ _ hr))
      rw [← sw_upd (ne_none (r.fh _ _ hr))] at hA ⊢
      exact core _ _ _ _ a od es (hwe _ hA) hH1 r1 (fun ad3 F3 H3 s3 σ3 k3 r3 => r3.fh _ _ (k3 _ _ (sw_at (ne_none hr)))) hl (fun i d k v => daKV_key hkv)
    · exact core B.F0 B.H0 F H a od es (hwe _ (Agr.refl H)) (r.fh _ _ hr) r (fun ad3 F3 H3 s3 σ3 k3 r3 => r3.fh _ _ (k3 _ _ hr)) hl (fun i d k v => daKV_key hkv)
  | _ => cases hds⟩
end
end Kr
/-! layer A41 -/
namespace Kr
open PySem L2
/-- the program's own classes -/
structure OT where
  opened : Addr
  desk : Addr
/-- nothing is asked of it -/
def neverT : SpT := fun _ _ _ => False
section
variable {P : Program} {w : World} {K : PySem.W.Frag} {mg : Str → Option Value} {base : Heap} {k : Nat} {f : Addr} {fd : FuncData} {ps : List Str} {n : Nat}
theorem fn_never : FnOk P w K mg base CX0 k f fd ps (spA n neverT) := ⟨fun vs H Q E ⟨_, _, _, _, _, _, _, _, h, _⟩ => h.elim, fun A outer s H args us vs Q E _ _ _ _ ⟨_, _, _, _, _, _, _, _, h, _⟩ => h.elim⟩
end
/-! ### {k: v}, k a tuple -/
section
open PySem.Spec PyProof.Rows
variable {X : Cx} {B : Bs} {σ : L2.St} {a b c : Expr} {pos p2 : Pos} {ta tb tc : TEA} {ka kb : TE}
def dispTT (tk tv : TEA) : TEA := fun s Q => ∀ f : Nat → Addr, tk ⟨s.sl, s.cs ++ [.tr (.nd (.dctT []) (f s.cs.length) [])]⟩ fun x s1 => tv s1 fun y s2 => onSome (keyTd x) fun k => onSome y.data? fun d => s2.cs[s.cs.length]? = some (.tr (.nd (.dctT []) (f s.cs.length) [])) ∧ Q (.r s.cs.length) ⟨s2.sl, s2.cs.set s.cs.length (.tr (.nd (.dctT [k]) (f s.cs.length) [.d d]))⟩
/-- x[i:j] -/
def slLH (ta tb tc : TEA) : TEA := fun s Q => ta s fun x s1 => tb s1 fun y s2 => onSome y.int? fun i => tc s2 fun z s3 => onSome z.int? fun j => slA (some i) (some j) x s3 Q
end
/-! ### for the simp set -/
section
variable {n : Nat} {pt : List Nat} {C dx q : Addr} {fs : List Str} {ts : List Tr} {ks : List Key} {s : AS} {x : AVal}
theorem objN_o : objN (some (n, pt, .obj C dx fs, q, ts)) = some (n, pt, C, dx, fs, q, ts) := rfl
theorem kidsAt {i : Nat} : (kids n pt ts)[i]? = (ts[i]?).map (valT n (i :: pt)) := by unfold kids; rw [List.getElem?_mapIdx]
theorem valT_d {d : PyData} : valT n pt (.d d) = .d d := rfl
theorem valT_nd {k : Kd} {a : Addr} : valT n pt (.nd k a ts) = .a a n pt := rfl
theorem valT_k {kvs : List (Key × PyData)} : valT n pt (dctK q kvs) = .a q n pt := rfl
theorem setO_none {g : Nat → Addr} {y : AVal} {cs : List Cell} {f : Str} {t u : Tr} : setO g s y cs f n pt C dx fs q ts t u none = ⟨mvS g cs n (ts.length :: pt) y s.sl, cs.set n (.tr (t.put pt (.nd (.obj C dx (fs ++ [f])) q (ts ++ [u]))))⟩ := rfl
theorem setO_some {g : Nat → Addr} {y : AVal} {cs : List Cell} {f : Str} {t u : Tr} {i : Nat} : setO g s y cs f n pt C dx fs q ts t u (some i) = ⟨mvS g cs n (i :: pt) y s.sl, cs.set n (.tr (t.put pt (.nd (.obj C dx fs) q (ts.set i u))))⟩ := rfl
theorem kids_leafs (ds : List PyData) : kids n pt (ds.map .d) = ds.map .d := by
  unfold kids
  apply List.ext_getElem?
  intro i
  rw [List.getElem?_mapIdx, List.getElem?_map, List.getElem?_map]
  cases ds[i]? <;> rfl
theorem zip_kv (kvs : List (Key × PyData)) : (kvs.map (·.1)).zip (kvs.map (·.2)) = kvs := by
  induction kvs with
  | nil => rfl
  | cons p r ih => simp only [List.map_cons, List.zip_cons_cons, ih]
theorem zip_kids (kvs : List (Key × PyData)) : (kvs.map (·.1)).zip (kids n pt (kvs.map fun p => Tr.d p.2)) = dkv kvs := by
  have e : (kvs.map fun p => Tr.d p.2) = (kvs.map (·.2)).map .d := by rw [List.map_map]; rfl
  rw [e, kids_leafs]
  unfold dkv
  clear e
  induction kvs with
  | nil => rfl
  | cons p r ih => simp only [List.map_cons, List.zip_cons_cons]; rw [ih]
theorem viewT_k (kvs : List (Key × PyData)) : viewT n pt (.dct (kvs.map (·.1))) (kvs.map fun p => .d p.2) = .dct (dkv kvs) := by
  show View.dct ((kvs.map (·.1)).zip (kids n pt (kvs.map fun p => Tr.d p.2))) = _
  have e : (kvs.map fun p => Tr.d p.2) = (kvs.map (·.2)).map .d := by rw [List.map_map]; rfl
  rw [e, kids_leafs]
  congr 1
  unfold dkv
  induction kvs with
  | nil => rfl
  | cons p r ih => simp only [List.map_cons, List.zip_cons_cons]; rw [ih (by rw [List.map_map]; rfl)]
theorem dcN_k (kvs : List (Key × PyData)) : dcN (some (n, pt, .dct (kvs.map (·.1)), q, kvs.map fun p => .d p.2)) = some (n, pt, kvs.map (·.1), q, kvs.map (·.2)) := by
  have e : (kvs.map fun p => Tr.d p.2) = (kvs.map (·.2)).map .d := by rw [List.map_map]; rfl
  show (leafs (kvs.map fun p => Tr.d p.2)).map _ = _
  rw [e, leafs_map]; rfl
end
end Kr
/-! layer A42 -/
namespace Kr
open PySem L2
/-! ### data < data, alike -/
section
open PySem.Spec PyProof.Rows
variable {X : Cx} {B : Bs}
def rLtD (K : PySem.W.Frag) : R2 := fun x y H Q => ∃ d e, Dp K H x d ∧ Dp K H y e ∧ PySem.W.alike d e = true ∧ d ≠ .none ∧ d.depth ≤ 60 ∧ Q (.bl (PySem.W.dataLt d e)) H
theorem op_ltD (hu : X.A.units + 64 < cLine) : OpR X (compareOp .Lt) (rLtD X.K) := by
  intro pins s σ H x y v u Q I rx ry h
  obtain ⟨d, e, hd, he, ha, hn, hdp, q⟩ := h
  obtain ⟨as, r1⟩ := Dp.reads I d x v hd rx
  obtain ⟨bs, r2⟩ := Dp.reads I e y u he ry
  exact PySem.W.lt_data r1 r2 ha hn (by omega) ⟨.bl _, H, I, rfl, q⟩
def ltDT : AVal → AVal → TTA := fun x y s Q => onSome (dataOf s x) fun d => onSome (dataOf s y) fun e => (PySem.W.alike d e = true ∧ d ≠ .none ∧ d.depth ≤ 60 ∧ d.canLay0 = true ∧ e.canLay0 = true) ∧ Q (PySem.W.dataLt d e) s
theorem o_ltD (hu : X.A.units + 64 < cLine) : OpT X B (compareOp .Lt) ltDT := fun ad F H s σ x y u v Q r hx hy ⟨d, e1, e, e2, ⟨h1, h2, h3, h4, h5⟩, q⟩ =>
  ⟨_, _, q, op_ltD hu, fun K k => ⟨d, e, hx.dp r e1 h4, hy.dp r e2 h5, h1, h2, h3, k⟩⟩
end
end Kr
/-! layer A43 -/
namespace Kr
open PySem L2
/-! ### text.strip(signs) -/
section
open PySem.Spec PyProof.Rows
variable {X : Cx} {B : Bs} {σ : L2.St} {o e : Expr} {to te : TE} {ta tb : TEA} {apos pos : Pos}
def stripCA (to te : TEA) : TEA := fun s Q => to s fun x s1 => onSome x.str? fun z => te s1 fun y s2 => onSome y.str? fun w => z.length ≤ sizeLine ∧ Q (.d (.str (Txt.stripChars z w))) s2
end
/-! ### dict(enumerate(xs)) -/
def enumK (n : Nat) : List Key := (List.range n).map fun i : Nat => (.inl (i : Int) : Key)
section
variable {X : Cx} {B : Bs} {e : Expr} {p p2 pos pos2 : Pos} {tl : TLA}
def dictEnumN (tl : TLA) : TNA := fun s Q => tl s fun xs s1 => one (fun x => onSome (listOf s1 x) fun es => Q (.dK (mergeA [] ((enumK es.length).zip es))) s1) xs
end
/-! ### text * int, any short text -/
section
variable {X : Cx} {B : Bs}
def mulSA : AVal → AVal → TEA := fun x y s Q => match x with
  | .d (.str z) => onSome y.int? fun n => (0 ≤ n ∧ n ≤ 1000 ∧ z.length ≤ 1000) ∧ Q (.d (.str (Txt.mul z n))) s
  | x => mulX x y s Q
theorem mulSA_str {z : Str} {y : AVal} {s : AS} {Q : VQ} : mulSA (.d (.str z)) y s Q = onSome y.int? fun n => (0 ≤ n ∧ n ≤ 1000 ∧ z.length ≤ 1000) ∧ Q (.d (.str (Txt.mul z n))) s := rfl
theorem mulSA_list {ds : List PyData} {y : AVal} {s : AS} {Q : VQ} : mulSA (.d (.list ds)) y s Q = mulX (.d (.list ds)) y s Q := rfl
end
end Kr
/-! layer A44 -/
namespace Kr
open PySem L2
/-! ### draws by numbers of any size -/
theorem de_fdivW {X : Cx} {σ : St} {F H : Hp} {a b : Expr} {i j : Int} {pos : Pos} (ha : DE X a σ F H (.int i)) (hb : DE X b σ F H (.int j)) (hc : CDivW i j) : DE X (.BinOp a .FloorDiv b pos) σ F H (.int (i / j)) := de_I op_fdivW ha hb hc
def spTakeW : Sp := fun vs H Q _ => ∃ (p : Addr) (n : Nat) (many : Int), vs = [.ref p, .int many] ∧ Pool H p n ∧ n < 1000000 ∧ 0 < many ∧ many < 2 ^ 200 ∧ ∀ r H', 0 ≤ r → r < many → (∀ b u, b ≠ p → H b = some u → H' b = some u) → Pool H' p (n + 1) → Q (.int r) H'
def tTakeW : SpT := fun xs cs P => match xs, cs with
  | [.r 0, .d (.int many)], [.pool m] => m < 1000000 ∧ 0 < many ∧ many < 2 ^ 200 ∧ ∀ r, 0 ≤ r → r < many → P (.f (.int r)) [.pool (m + 1)]
  | _, _ => False
theorem divW_of {i j : Int} (h0 : 0 < j) (h1 : j < 2 ^ 200) : CDivW i j := wide_div (b := 200) h0 (by
  have : ((j.natAbs : Nat) : Int) < ((2 ^ 200 : Nat) : Int) := by
    rw [Int.natAbs_of_nonneg (by omega)]
    exact_mod_cast h1
  exact_mod_cast this) (by decide) (by decide)
section
variable {Pr : Program} {w : World} {K : PySem.W.Frag} {mg : Str → Option Value} {base : Heap} {k n c : Nat} {f : Addr} {fd : FuncData} {ps : List Str}
theorem okTakeW_A (G : FnOk Pr w K mg base CX0 k f fd ps spTakeW) : FnOk Pr w K mg base CX0 k f fd ps (spA 2 tTakeW) := G.imp fun vs H Q E ⟨F, ad, cs, xs, P, hl, r, hp, ht, q⟩ => by
  unfold tTakeW at ht
  split at ht
  · rename_i many m
    obtain ⟨hm, h0, h1, hP⟩ := ht
    obtain ⟨p, rfl, hpool, hF⟩ := pool1 r
    match vs, hp with
    | _, .cons (b := u) h1 (.cons (b := v) h2 .nil) =>
      obtain ⟨a, ha, rfl⟩ := h1
      have : p = a := by simpa using ha
      subst this
      obtain rfl : v = .int many := h2
      refine ⟨p, m, many, rfl, hpool, hm, h0, by assumption, fun i H' i0 i1 kk P2 => q (.int i) H' (.inl ⟨F, .int i, [.pool (m + 1)], rl_gp r ((Gp.refl r.fh).to hF kk P2) P2, fun c hc => ?_, rfl, hP i i0 i1⟩)⟩
      rw [List.mem_singleton] at hc; subst hc; rfl
  · exact ht.elim
end
theorem tTakeW_use {many : Int} {m : Nat} {P : RV → List Cell → Prop} (hm : m < 1000000) (h0 : 0 < many) (h1 : many < 2 ^ 200) (h : ∀ r : Nat, (r : Int) < many → P (.f (.int (r : Int))) [.pool (m + 1)]) : tTakeW [.r 0, .d (.int many)] [.pool m] P :=
  ⟨hm, h0, h1, fun r r0 r1 => by obtain ⟨j, rfl⟩ := Int.eq_ofNat_of_zero_le r0; exact h j r1⟩
/-! ### for over a text -/
section
variable {X : Cx} {B : Bs} {tg e : Expr} {ta : TEA}
def iterTx (ta : TEA) : AS → (List PyData → AS → Prop) → Prop := fun s Q => ta s fun x s1 => onSome x.str? fun z => z.length ≤ sizeLine ∧ Q (signsD z) s1
end
end Kr
/-! layer A50 -/
namespace L2
open PySem PySem.Spec PyProof.Rows
/-! ### sorted(d, key=len, reverse=True) of a dict keyed by tuples -/
theorem each_vals {out : List Value} {bs : List (List Key × Addr)} (e : PySem.W.EachIs (fun (v : Value) (x : List Key × Addr) => v = .ref x.2) out bs) : Vals (bs.map fun x => V.ref x.2) out := by
  induction e with
  | nil => exact .nil
  | cons h t ih => exact .cons h ih
end L2
namespace Kr
open PySem L2
/-! ## dicts keyed by tuples: their keys in order -/
def keyTD (k : List Key) : PyData := .tuple (k.map keyD)
def Kd.noTup : Kd → Bool
  | .tup => false
  | _ => true
mutual
def Tr.noTup : Tr → Bool
  | .d _ => true
  | .nd k _ xs => k.noTup && Tr.noTupL xs
def Tr.noTupL : List Tr → Bool
  | [] => true
  | t :: ts => t.noTup && Tr.noTupL ts
end
def Cell.noTup : Cell → Bool
  | .nt _ => false
  | .tr t => t.noTup
  | _ => true
section
variable {X : Cx} {B : Bs} {ad : List Addr} {F H : Hp} {s : AS} {σ : St} {x y : AVal} {u v : V} {o e a b value : Expr} {pos tpos p p2 p3 q q2 : Pos} {ta tb tc : TEA} {n : Nat}
theorem COk.noTup {p : Addr} {c : Cell} (h : COk ad F H p c) (hl : c.live = true) (hn : c.noTup = true) : ∀ vs, H p ≠ some (.tup vs) := by
  intro vs
  cases c with
  | lst ds => obtain ⟨ws, h1, _⟩ := h; rw [h1]; exact fun z => nomatch z
  | dK kvs => obtain ⟨ws, h1, _⟩ := h; rw [h1]; exact fun z => nomatch z
  | pool n =>
    obtain ⟨_, _, _, h1, _⟩ := h
    rw [h1]; exact fun z => nomatch z
  | fz x => cases hl
  | gone => cases hl
  | nl xs => obtain ⟨ws, h1, _⟩ := h; rw [h1]; exact fun z => nomatch z
  | nt xs => cases hn
  | nd kvs => obtain ⟨ws, h1, _⟩ := h; rw [h1]; exact fun z => nomatch z
  | dl od es kvs => rw [h.1]; exact fun z => nomatch z
  | tr t => cases hl
def lenK (x : List Key) : PyData := .int (x.length : Int)
/-- sorted(d, key=len, reverse=True) -/
def sortLRN (ta : TEA) : TNA := fun s Q => ta s fun x s1 => onSome (dtAt s1 x) fun N => s1.cs.all Cell.noTup = true ∧ Q (.lst ((N.2.2.1.mergeSort (PySem.W.dataLe true lenK)).map keyTD)) s1
end
end Kr
/-! layer A51 -/
namespace Kr
open PySem L2
/-! ## dicts keyed by tuples: what stands at a key, values of our own -/
def getZ {κ β : Type} [DecidableEq κ] (l : List (κ × β)) (k : κ) : Option β := (l.find? fun p => decide (p.1 = k)).map (·.2)
section
variable {X : Cx} {B : Bs} {ad : List Addr} {F H : Hp} {s : AS} {σ : St} {x y : AVal} {u v : V} {o e a b value : Expr} {pos tpos p p2 p3 q q2 : Pos} {ta tb tc : TEA} {n : Nat}
def getTT (ta tb : TEA) : TEA := fun s Q => ta s fun x s1 => tb s1 fun y s2 => onSome (dtAt s2 x) fun N => onSome (keyTd y) fun k => onSome (getZ (N.2.2.1.zip (kids N.1 N.2.1 N.2.2.2.2)) k) fun z => Q z s2
/-- d[k] = v, k not yet there, v a cell of our own that goes into the tree -/
def putTO (tv to ti : TEA) : TSA := fun D s => tv s fun v s1 => to s1 fun x s2 => ti s2 fun y s3 => ∀ f : Nat → Addr, onSome (grab f s3.cs v) fun g => onSome (dtAt ⟨s3.sl, g.2⟩ x) fun N => onSome (keyTd y) fun k => onSome (treeAt g.2 N.1) fun t => (memT k N.2.2.1 = false ∧ N.2.2.2.2.length < sizeLine) ∧ D.nx ⟨mvS f g.2 N.1 (N.2.2.2.2.length :: N.2.1) v s3.sl, g.2.set N.1 (.tr (t.put N.2.1 (.nd (.dctT (N.2.2.1 ++ [k])) N.2.2.2.1 (N.2.2.2.2 ++ [g.1]))))⟩
/-- {k: v} with a value of our own -/
def dispTO (tk tv : TEA) : TEA := fun s Q => ∀ f : Nat → Addr, tk ⟨s.sl, s.cs ++ [.tr (.nd (.dctT []) (f s.cs.length) [])]⟩ fun x s1 => tv s1 fun y s2 => onSome (keyTd x) fun k => ∀ f2 : Nat → Addr, onSome (grab f2 s2.cs y) fun g => g.2[s.cs.length]? = some (.tr (.nd (.dctT []) (f s.cs.length) [])) ∧ Q (.r s.cs.length) ⟨mvS f2 g.2 s.cs.length [0] y s2.sl, g.2.set s.cs.length (.tr (.nd (.dctT [k]) (f s.cs.length) [g.1]))⟩
end
end Kr
namespace Kr
open PySem L2
/-! ## defs that tell a tree of bare things: what they froze is forgotten -/
def bareI : PyData → Bool
  | .int _ => true
  | .str _ => true
  | .bool _ => true
  | .none => true
  | _ => false
mutual
def Tr.imm : Tr → Bool
  | .d x => bareI x
  | .nd _ _ xs => Tr.immL xs
def Tr.immL : List Tr → Bool
  | [] => true
  | t :: ts => t.imm && Tr.immL ts
end
def AVal.isD : AVal → Bool
  | .d _ => true
  | _ => false
def retI (P : RV → List Cell → Prop) (x : AVal) (s : AS) : Prop := match x with
  | .r n => onSome s.cs[n]? fun c => match c with
    | .tr t => t.imm = true ∧ P (.t t) []
    | _ => False
  | _ => False
def bodyTI (k : Nat) (t : Nat → TSA) : SpT := fun xs cs P => (cs = [] ∧ xs.all AVal.isD = true) ∧ t 0 ⟨retI P (.d .none), retI P, fun _ => False, fun _ => False⟩ ⟨xs.map some ++ List.replicate k none, []⟩
end Kr
/-! layer A52 -/
namespace L2
open PySem PySem.Spec PyProof.Rows
/-! ### sorted of a tuple of ints -/
end L2
namespace Kr
open PySem L2
section
variable {X : Cx} {B : Bs} {ad : List Addr} {F H : Hp} {s : AS} {σ : St} {x y : AVal} {u v : V}
/-- x in t of a tuple told -/
def inTup (neg : Bool) (x y : AVal) : TTA := fun s Q => onSome (tupD y) fun ds => onSome x.data? fun d => (flatD d = true ∧ ds.all flatD = true) ∧ Q (inD d ds != neg) s
/-- sorted(t) of a tuple of ints -/
def sortedTN (xs : List AVal) : TNA := fun s Q => one (fun x => onSome (tupD x) fun ds => onSome (ints? ds) fun ns => ns.length < 64 ∧ Q (.lst ((srtI ns).map .int)) s) xs
end
theorem sortedTN_1 {x : AVal} {s : AS} {Q : Cell → AS → Prop} : sortedTN [x] s Q = onSome (tupD x) fun ds => onSome (ints? ds) fun ns => ns.length < 64 ∧ Q (.lst ((srtI ns).map .int)) s := rfl
end Kr
/-! layer A53 -/
/-! layer A54 -/
/-! layer A55 -/
namespace Kr
open PySem L2
/-! ## sorted of a list of trees: the same trees in a new list -/
def trD (t : Tr) : PyData := (t.data?).getD .none
def kidsC : Cell → Option (List Tr)
  | .lst ds => some (ds.map .d)
  | .tr (.nd .lst _ ts) => some ts
  | _ => none
def sortTs (ts : List Tr) : List Tr := ts.mergeSort (PySem.W.dataLe false trD)
def sortTA (xs : List AVal) : TEA := fun s Q => one (fun x => match x with
  | .r n => onSome ((s.cs[n]?).bind kidsC) fun ts => onSome (Tr.datas? ts) fun ds => (PySem.W.AllAlike ds ∧ PySem.W.Sortable ds ∧ ∀ d ∈ ds, d.canLay0 = true ∧ d.depth ≤ 60) ∧ ∀ p : Addr, Q (.r s.cs.length) ⟨s.sl, s.cs.set n .gone ++ [.tr (.nd .lst p (sortTs ts))]⟩
  | _ => False) xs
section
variable {X : Cx} {B : Bs} {ad : List Addr} {F H : Hp} {s : AS} {σ : St} {x y : AVal} {u v : V} {cs : List Cell} {ls ls2 ts : List Tr}
def rSortedT (X : Cx) : List V → Hp → VK → Prop := fun vs H Q => ∃ (a : Addr) (xs : List V) (ts : List Tr) (Rr : V → Tr → Prop), vs = [V.ref a] ∧ SqL X.K H a xs ∧ Paired (fun x t => Rr x t ∧ Dp X.K H x (trD t)) xs ts ∧ PySem.W.AllAlike (ts.map trD) ∧ PySem.W.Sortable (ts.map trD) ∧ (∀ t ∈ ts, (trD t).depth ≤ 60) ∧
  ∀ ys p, Paired Rr ys (sortTs ts) → H p = none → Q (.ref p) (upd H p (.lst ys))
theorem each_valsT {Rr : V → Tr → Prop} {pins : List (Addr × Obj)} {s : Shared} {H : Hp} (I : Inv X pins σ H s) : ∀ {xs : List V} {us : List Value} {ts : List Tr}, Vals xs us → Paired (fun x t => Rr x t ∧ Dp X.K H x (trD t)) xs ts →
    PySem.W.EachIs (fun u t => ∃ x, RelV x u ∧ Rr x t) us ts ∧ PySem.W.EachIs (fun u t => ∃ as, PySem.Reads s.heap u (trD t) as) us ts
  | _, _, _, .nil, .nil => ⟨.nil, .nil⟩
  | _, _, _, .cons rx rv, .cons h t => by
    obtain ⟨h1, h2⟩ := each_valsT I rv t
    obtain ⟨as, r1⟩ := Dp.reads I _ _ _ h.2 rx
    exact ⟨.cons ⟨_, rx, h.1⟩ h1, .cons ⟨as, r1⟩ h2⟩
theorem valsT_each {Rr : V → Tr → Prop} : ∀ {us : List Value} {ts : List Tr}, PySem.W.EachIs (fun u t => ∃ x, RelV x u ∧ Rr x t) us ts → ∃ ys, Vals ys us ∧ Paired Rr ys ts
  | _, _, .nil => ⟨[], .nil, .nil⟩
  | _, _, .cons h t => by
    obtain ⟨x, h1, h2⟩ := h
    obtain ⟨ys, h3, h4⟩ := valsT_each t
    exact ⟨x :: ys, .cons h1 h3, .cons h2 h4⟩
theorem cr_sortedT (hu : X.A.units + 64 < cLine) : CallR X (.builtin "sorted") (rSortedT X) := by
  intro pins s σ H vs us Q I r h
  obtain ⟨a, xs, ts, Rr, rfl, hs, hp, hal, hso, hd, q⟩ := h
  obtain ⟨its, rv, hl, hz⟩ := I.list hs
  rw [Vals.ref1 r]
  obtain ⟨e1, e2⟩ := each_valsT I rv hp
  have hln : xs.length = ts.length := Paired.len hp
  refine PySem.W.sorted_data (enc := trD) (bs := ts) hl.isList e1 e2 hal hso (by rw [← hln]; exact hz) (fun t htm => ?_) fun out ho heach => ?_
  · have := hd t htm
    show X.A.units + 2 + (trD t).depth < cLine
    omega
  · obtain ⟨ys, k1, k2⟩ := valsT_each heach
    obtain ⟨ep, he'⟩ := PyProof.Rows.sortedAll_at s.heap its out.toArray
    have hlen : ys.length ≤ sizeLine := by
      rw [k1.length, ho, ← hln]; exact hz
    exact ⟨.ref _, upd H (s.heap.objs.size + 1) (.lst ys), I.laid (t' := s.toks) (fun _ _ => PyProof.Rows.sortedAll_old) (Nat.le_succ _) ⟨hlen, out, ep, k1, he'⟩, rfl, q _ _ k2 (I.hok.fresh (Nat.le_succ _))⟩
theorem Loose.sub (L : Loose B ad F H cs ls) (h : ∀ q, (Tr.addrsL ls2).count q ≤ (Tr.addrsL ls).count q) : Loose B ad F H cs ls2 := by
  have hm : ∀ q ∈ Tr.addrsL ls2, q ∈ Tr.addrsL ls := fun q hq => List.count_pos_iff.mp (Nat.lt_of_lt_of_le (List.count_pos_iff.mpr hq) (h q))
  exact ⟨fun q => by have h1 := h q; have h2 := L.cnt q; omega, fun q hq => L.off q (hm q hq), fun q hq => L.fr q (hm q hq), fun q hq => L.own q (hm q hq)⟩
theorem addrsL_perm {ts us : List Tr} (p : ts.Perm us) (q : Addr) : (Tr.addrsL ts).count q = (Tr.addrsL us).count q := by
  induction p with
  | nil => rfl
  | cons a _ ih => rw [cntL_cons, cntL_cons, ih]
  | swap a b l => rw [cntL_cons, cntL_cons, cntL_cons, cntL_cons]; omega
  | trans _ _ h1 h2 => rw [h1, h2]
theorem datas_trD : ∀ {ts : List Tr} {ds : List PyData}, Tr.datas? ts = some ds → ts.map trD = ds ∧ ∀ t ∈ ts, t.data? = some (trD t)
  | [], ds, e => by cases e; exact ⟨rfl, (fun _ h => nomatch h)⟩
  | t :: ts, ds, e => by
    unfold Tr.datas? at e
    split at e
    · rename_i y ys h1 h2
      cases e
      obtain ⟨g1, g2⟩ := datas_trD h2
      have ey : trD t = y := by unfold trD; rw [h1]; rfl
      refine ⟨by rw [List.map_cons, g1, ey], fun z hz => ?_⟩
      rcases List.mem_cons.mp hz with rfl | hz
      · rw [ey]; exact h1
      · exact g2 z hz
    · cases e
theorem trAll_pair (s : Same F H) : ∀ {ts : List Tr} {vs : List V}, TrAll F H ts vs → (∀ t ∈ ts, t.data? = some (trD t) ∧ (trD t).canLay0 = true) → Paired (fun v t => TrOk F H t v ∧ Dp X.K H v (trD t)) vs ts
  | [], _, h, _ => by obtain rfl := (show _ = [] from h); exact .nil
  | t :: ts, _, h, e => by
    obtain ⟨v, r, rfl, h1, h2⟩ := (show ∃ v r, _ = v :: r ∧ TrOk F H t v ∧ TrAll F H ts r from h)
    obtain ⟨e1, e2⟩ := e t (List.mem_cons_self ..)
    exact .cons ⟨h1, TrOk.dp s h1 e1 e2⟩ (trAll_pair s h2 fun z hz => e z (List.mem_cons_of_mem _ hz))
theorem pair_trAll : ∀ {ts : List Tr} {vs : List V}, Paired (fun v t => TrOk F H t v) vs ts → TrAll F H ts vs
  | _, _, .nil => rfl
  | _, _, .cons h t => ⟨_, _, rfl, h, pair_trAll t⟩
theorem c_sortT (hu : X.A.units + 64 < cLine) : CalA X B (.builtin "sorted") sortTA := fun ad F H s σ xs us Q r hp t => by
  obtain ⟨x, u, rfl, rfl, hx, t⟩ := one_ok t hp
  cases x with
  | r n =>
    obtain ⟨ts, ek, ds, ed, ⟨h1, h2, h3⟩, q⟩ := (show onSome ((s.cs[n]?).bind kidsC) _ from t)
    obtain ⟨a, ha, rfl⟩ := hx
    obtain ⟨g1, g2⟩ := datas_trD ed
    cases hc : s.cs[n]? with
    | none => rw [hc] at ek; cases ek
    | some c =>
      rw [hc] at ek
      have ek : kidsC c = some ts := ek
      obtain ⟨_, _, ok⟩ := r.cel n a c ha hc
      obtain ⟨vs, hH, hT, t0, hg, hsub⟩ : ∃ vs, H a = some (.lst vs) ∧ TrAll F H ts vs ∧ ∃ t0, grabC (fun i => (ad[i]?).getD 0) s.cs n c = some (t0, s.cs.set n .gone) ∧ ∀ q, (Tr.addrsL ts).count q ≤ t0.addrs.count q := by
        cases c with
        | lst es =>
          cases ek
          obtain ⟨vs, k1, k2⟩ := ok
          exact ⟨vs, k1, trAll_leafs k2, _, rfl, fun q => by rw [cntL_leafs]; exact Nat.zero_le _⟩
        | tr t =>
          cases t with
          | d _ => cases ek
          | nd k b us =>
            cases k with
            | lst =>
              cases ek
              obtain ⟨e0, vs, k1, _, k3⟩ := ok.2.node
              cases e0
              exact ⟨vs, k1, k3, _, rfl, fun q => by rw [cnt_nd]; omega⟩
            | _ => cases ek
        | _ => cases ek
      obtain ⟨r1, L1, _⟩ := grabC_ok r (Loose.nil r) (adF ad) ha hc hg
      rw [List.nil_append] at L1
      have hpm : (sortTs ts).Perm ts := List.mergeSort_perm _ _
      have L2 : Loose B ad F H (s.cs.set n .gone) (sortTs ts) := L1.sub fun q => by
        rw [addrsL_perm hpm, cntL_cons, cntL_nil]
        exact hsub q
      have hcan : ∀ t ∈ ts, t.data? = some (trD t) ∧ (trD t).canLay0 = true ∧ (trD t).depth ≤ 60 := fun t ht => ⟨g2 t ht, h3 _ (by rw [← g1]; exact List.mem_map.mpr ⟨t, ht, rfl⟩)⟩
      refine ⟨_, cr_sortedT hu, a, vs, ts, fun v t => TrOk F H t v, rfl, SqL.of hH, trAll_pair r.fh hT fun t ht => ⟨(hcan t ht).1, (hcan t ht).2.1⟩, by rw [g1]; exact h1, by rw [g1]; exact h2, fun t ht => (hcan t ht).2.2, fun ys p hys hpn => ?_⟩
      have r2 := r1.newT (k := .lst) L2 hpn rfl (pair_trAll hys) trivial
      have hl : ad.length = s.cs.length := r.len
      exact ⟨_, F, .r s.cs.length, _, ⟨[p], rfl⟩, Same.refl _, r2, ⟨p, by rw [← hl]; simp, rfl⟩, q p⟩
  | _ => exact t.elim
end
theorem sortTA_r {n : Nat} {s : AS} {Q : VQ} : sortTA [.r n] s Q = onSome ((s.cs[n]?).bind kidsC) fun ts => onSome (Tr.datas? ts) fun ds => (PySem.W.AllAlike ds ∧ PySem.W.Sortable ds ∧ ∀ d ∈ ds, d.canLay0 = true ∧ d.depth ≤ 60) ∧ ∀ p : Addr, Q (.r s.cs.length) ⟨s.sl, s.cs.set n .gone ++ [.tr (.nd .lst p (sortTs ts))]⟩ := rfl
/-! ## str of an int, of a text -/
end Kr
/-! layer A56 -/
namespace Kr
open PySem L2
/-! ## an expression that reads our own things as they stand, and tells a new tree of bare things -/
def Kd.noObj : Kd → Bool
  | .obj _ _ _ => false
  | _ => true
mutual
def Tr.bare : Tr → Bool
  | .d x => bareD x
  | .nd k _ ts => k.noObj && Tr.bares ts
def Tr.bares : List Tr → Bool
  | [] => true
  | t :: ts => t.bare && Tr.bares ts
end
theorem Kd.side_any {H H2 : Hp} {k : Kd} {a : Addr} {n : Nat} (h : k.side H a n) (hk : k.noObj = true) : k.side H2 a n := by
  cases k with
  | obj _ _ _ => cases hk
  | _ => exact h
mutual
theorem TrOk.bareTo {F F2 H H2 : Hp} : ∀ {t : Tr} {v : V}, TrOk F H t v → t.bare = true → (∀ q ∈ t.addrs, ∀ o, H q = some o → H2 q = some o) → TrOk F2 H2 t v
  | .d x, v, h, b, _ => bare_da b h
  | .nd k a xs, v, h, b, e => by
    have b : (k.noObj && Tr.bares xs) = true := b
    rw [Bool.and_eq_true] at b
    obtain ⟨h0, vs, h1, h2, h3⟩ := h.node
    subst h0
    have e' : ∀ q ∈ a :: (k.more ++ Tr.addrsL xs), ∀ o, H q = some o → H2 q = some o := e
    exact TrOk.of (e' a (List.mem_cons_self ..) _ h1) (Kd.side_any h2 b.1) (TrAll.bareTo h3 b.2 fun q hq => e' q (List.mem_cons_of_mem _ (List.mem_append_right _ hq)))
theorem TrAll.bareTo {F F2 H H2 : Hp} : ∀ {ts : List Tr} {vs : List V}, TrAll F H ts vs → Tr.bares ts = true → (∀ q ∈ Tr.addrsL ts, ∀ o, H q = some o → H2 q = some o) → TrAll F2 H2 ts vs
  | [], _, h, _, _ => h
  | t :: ts, vs, h, b, e => by
    have b : (t.bare && Tr.bares ts) = true := b
    rw [Bool.and_eq_true] at b
    obtain ⟨v, r, h0, h1, h2⟩ := (show ∃ v r, vs = v :: r ∧ TrOk F H t v ∧ TrAll F H ts r from h)
    have e' : ∀ q ∈ t.addrs ++ Tr.addrsL ts, ∀ o, H q = some o → H2 q = some o := e
    exact (show ∃ v r, vs = v :: r ∧ TrOk F2 H2 t v ∧ TrAll F2 H2 ts r from ⟨v, r, h0, h1.bareTo b.1 fun q hq => e' q (List.mem_append_left _ hq), TrAll.bareTo h2 b.2 fun q hq => e' q (List.mem_append_right _ hq)⟩)
end
end Kr
/-! layer A57 -/
/-! layer A58 -/
/-! layer A59 -/
namespace Kr
open PySem L2
/-! ## sorted(set(..)) of ints -/
section
variable {X : Cx} {B : Bs} {ad : List Addr} {F H : Hp} {s : AS} {σ : St} {x y : AVal} {u v : V} {e : Expr} {pos p p2 pos2 : Pos} {ta : TEA}
/-! ## min and max of lists of alike data -/
def rMinD (X : Cx) (g : PyData → List PyData → PyData) : List V → Hp → VK → Prop := fun vs H Q => ∃ (a : Addr) (xs : List V) (d : PyData) (ds : List PyData), vs = [V.ref a] ∧ SqL X.K H a xs ∧ DpAll X.K H xs (d :: ds) ∧ PySem.W.AlikeAll (d :: ds) ∧ PyData.canLayAll0 (d :: ds) = true ∧ PyData.depthAll (d :: ds) ≤ 60 ∧ ∀ (i : Nat) x, xs[i]? = some x → (d :: ds)[i]? = some (g d ds) → Q x H
theorem vals_get59 : ∀ {xs : List V} {us : List Value} {i : Nat} {u : Value}, Vals xs us → us[i]? = some u → ∃ x, xs[i]? = some x ∧ RelV x u
  | _, _, i, _, .nil, e => by simp at e
  | _, _, 0, _, .cons r _, e => by simp at e; subst e; exact ⟨_, rfl, r⟩
  | _, _, i + 1, _, .cons _ t, e => by
    obtain ⟨x, h1, h2⟩ := vals_get59 t (by simpa using e)
    exact ⟨x, by simpa using h1, h2⟩
theorem can_all59 : ∀ {ds : List PyData}, PyData.canLayAll0 ds = true → ∀ d ∈ ds, d.canLay0 = true
  | [], _, d, h => nomatch h
  | x :: xs, c, d, h => by
    have c' : x.canLay0 = true ∧ PyData.canLayAll0 xs = true := by simpa [PyData.canLayAll0] using c
    rcases List.mem_cons.mp h with rfl | h
    · exact c'.1
    · exact can_all59 c'.2 d h
theorem best_at59 {h h' : Heap} {us : List Value} {ds : List PyData} {as bs : List Addr} {i : Nat} {v : Value} {m : PyData} (hr : ReadsAll h us ds as) (hv : us[i]? = some v) (k : ∀ b o, h.get? b = some o → h'.get? b = some o) (rd : Reads h' v m bs) (hcan : PyData.canLayAll0 ds = true) : ds[i]? = some m := by
  obtain ⟨cs, r1, hl, hm, _⟩ := PySem.W.readsAll_at hr i v hv
  have r2 := PySem.W.reads_keeps k r1
  have hg : ds[i]? = some (ds.getD i .none) := by
    rw [List.getD_eq_getElem?_getD, List.getElem?_eq_getElem hl]; rfl
  have hc : (ds.getD i .none).canLay0 = true := can_all59 hcan _ hm
  rw [hg, SeqAt.Reads.unique _ _ _ _ _ hc r2 rd]
theorem cr_minD (hc : X.calm = true) (hu : X.A.units + 64 < cLine) : CallR X (.builtin "min") (rMinD X PySem.W.minD) := by
  intro pins sh σ H vs us Q I r h
  obtain ⟨a, xs, d, ds, rfl, hs, hp, ha, hcan, hd, q⟩ := h
  obtain ⟨its, rv, hl, _⟩ := I.list hs
  rw [Vals.ref1 r]
  obtain ⟨as, hr⟩ := Dp.readsAll I _ _ _ hp rv
  refine PySem.W.min_list_data (I.ok.hd hc) hl.isList (by rw [List.toList_toArray]; exact hr) ha (by omega) fun i v h' tk bs hv rd k => ?_
  have hv : its[i]? = some v := by rwa [List.getElem?_toArray] at hv
  obtain ⟨x, hx, hxv⟩ := vals_get59 rv hv
  exact ⟨x, H, I.kept k, hxv, q i x hx (best_at59 hr hv k rd hcan)⟩
theorem cr_maxD (hc : X.calm = true) (hu : X.A.units + 64 < cLine) : CallR X (.builtin "max") (rMinD X PySem.W.maxD) := by
  intro pins sh σ H vs us Q I r h
  obtain ⟨a, xs, d, ds, rfl, hs, hp, ha, hcan, hd, q⟩ := h
  obtain ⟨its, rv, hl, _⟩ := I.list hs
  rw [Vals.ref1 r]
  obtain ⟨as, hr⟩ := Dp.readsAll I _ _ _ hp rv
  refine PySem.W.max_list_data (I.ok.hd hc) hl.isList (by rw [List.toList_toArray]; exact hr) ha (by omega) fun i v h' tk bs hv rd k => ?_
  have hv : its[i]? = some v := by rwa [List.getElem?_toArray] at hv
  obtain ⟨x, hx, hxv⟩ := vals_get59 rv hv
  exact ⟨x, H, I.kept k, hxv, q i x hx (best_at59 hr hv k rd hcan)⟩
def bestD (g : PyData → List PyData → PyData) (s : AS) (Q : VQ) : List PyData → Prop
  | [] => False
  | d :: ds => (PySem.W.AlikeAll (d :: ds) ∧ PyData.canLayAll0 (d :: ds) = true ∧ PyData.depthAll (d :: ds) ≤ 60) ∧ Q (.d (g d ds)) s
def bestDA (g : PyData → List PyData → PyData) (xs : List AVal) : TEA := fun s Q => one (fun x => onSome (listOf s x) fun ds => bestD g s Q ds) xs
theorem da_at59 {F : Hp} : ∀ {ds : List PyData} {vs : List V} {i : Nat} {d : PyData} {v : V}, DaAll F ds vs → vs[i]? = some v → ds[i]? = some d → Da F d v
  | [], _, i, _, _, _, _, e => by simp at e
  | d :: ds, _, i, e, v, h, hv, hd => by
    obtain ⟨w, r, rfl, h1, h2⟩ := (show ∃ v r, _ = v :: r ∧ Da F d v ∧ DaAll F ds r from h)
    cases i with
    | zero =>
      simp at hv hd
      subst hv; subst hd
      exact h1
    | succ i => exact da_at59 h2 (by simpa using hv) (by simpa using hd)
theorem c_bestD {n : String} {g : PyData → List PyData → PyData} (cr : CallR X (.builtin n) (rMinD X g)) : CalA X B (.builtin n) (bestDA g) := fun ad F H s σ xs us Q r hp t => by
  obtain ⟨x, u, rfl, rfl, hx, ds, e, t⟩ := one_ok t hp
  cases ds with
  | nil => exact t.elim
  | cons d ds =>
    obtain ⟨⟨h1, h2, h3⟩, q⟩ := t
    obtain ⟨l, vs, rfl, g1, g2⟩ := hx.list r e
    refine ⟨_, cr, l, vs, d, ds, rfl, SqL.of g1, DaAll.dp (DaAll.mono r.fh g2) h2, h1, h2, h3, fun i v hv hd => ?_⟩
    exact .here (x := .d (g d ds)) r (da_at59 g2 hv hd) q
theorem c_minD (hc : X.calm = true) (hu : X.A.units + 64 < cLine) : CalA X B (.builtin "min") (bestDA PySem.W.minD) := c_bestD (cr_minD hc hu)
theorem c_maxD (hc : X.calm = true) (hu : X.A.units + 64 < cLine) : CalA X B (.builtin "max") (bestDA PySem.W.maxD) := c_bestD (cr_maxD hc hu)
end
/-! ## a new tree of bare things, told for good -/
end Kr
/-! layer A60 -/
/-! layer A61 -/
/-! layer A62 -/
/-! layer A78 -/
namespace Kr
open PySem L2
/-! ## a def's end, in which a tree of bare things alone is known: a list told there is our own -/
theorem WSs.ends {X : Cx} {st : List Stmt} {D1 D2 : Ends} {σ : St} {H : Hp} (h : WSs X st D1 σ H) (n : ∀ σ H, D1.nx σ H → D2.nx σ H) (r : ∀ v H, D1.rt v H → D2.rt v H) (b : ∀ σ H, D1.bk σ H → D2.bk σ H) (c : ∀ σ H, D1.ct σ H → D2.ct σ H) : WSs X st D2 σ H := fun pins s I => thn (h pins s I) fun f s' q => by
  cases f with
  | next => obtain ⟨σ', H', I', q⟩ := q; exact ⟨σ', H', I', n _ _ q⟩
  | brk => obtain ⟨σ', H', I', q⟩ := q; exact ⟨σ', H', I', b _ _ q⟩
  | cont => obtain ⟨σ', H', I', q⟩ := q; exact ⟨σ', H', I', c _ _ q⟩
  | ret u => obtain ⟨v, σ', H', I', rv, q⟩ := q; exact ⟨v, σ', H', I', rv, r _ _ q⟩
/-- the tree told: a tuple of an int and a list of ints -/
def twoT (p q : Addr) (i : Int) (ds : List Int) : Tr := .nd .tup p [.d (.int i), .nd .lst q ((ds.map PyData.int).map .d)]
def frE (j : Option (List Int)) (D : DA) : DA := ⟨fun _ => False, fun v s1 => ∃ i ds, v = .d (.tuple [.int i, .list (ds.map .int)]) ∧ (∀ ws, j = some ws → s1.cs[0]? = some (.lst (ws.map .int))) ∧ ∀ p q, D.rt (.r 0) ⟨[], [.tr (twoT p q i ds)]⟩, fun _ => False, fun _ => False⟩
def slotsF (n k : Nat) (x : AVal) : List (Option AVal) := (List.replicate n none).set k (some x)
/-- slot k holds the tree -/
def freshA (k : Nat) (tb : TSA) : TSA := fun D s => ∃ n t x, s.sl[k]? = some (some (.r n)) ∧ s.cs[n]? = some (.tr t) ∧ t.bare = true ∧ t.data? = some x ∧ tb (frE none D) ⟨slotsF s.sl.length k (.d x), []⟩
/-- slot k holds the tree, slot w a list of ints told for good -/
def freshW (k w : Nat) (tb : TSA) : TSA := fun D s => ∃ n t x ws, s.sl[k]? = some (some (.r n)) ∧ s.cs[n]? = some (.tr t) ∧ t.bare = true ∧ t.data? = some x ∧ s.sl[w]? = some (some (.d (.list (ws.map .int)))) ∧ tb (frE (some ws) D) ⟨(slotsF s.sl.length k (.d x)).set w (some (.r 0)), [.lst (ws.map .int)]⟩
section
variable {X : Cx} {B : Bs} {ad ad1 : List Addr} {F F1 H H1 : Hp} {s s1 : AS} {σ σ1 : St} {t : Tr} {x : PyData} {k n w : Nat} {ws : List Int} {sts : List Stmt} {tb : TSA} {S' : List Addr} {D : DA}
open Classical in
noncomputable def onlyF (H : Hp) (l : List Addr) : Hp := fun b => if b ∈ l then H b else none
theorem onlyF_same (H : Hp) (l : List Addr) : Same (onlyF H l) H := fun b o h => by
  unfold onlyF at h
  split at h
  · exact h
  · cases h
theorem onlyF_in {H : Hp} {l : List Addr} {b : Addr} (h : onlyF H l b ≠ none) : b ∈ l := Classical.byContradiction fun z => h (if_neg z)
theorem slotsF_get {n k i : Nat} {x y : AVal} (h : (slotsF n k x)[i]? = some (some y)) : i = k ∧ y = x := by
  unfold slotsF at h
  by_cases hi : k = i
  · subst hi
    rw [List.getElem?_set] at h
    rw [if_pos rfl] at h
    split at h
    · cases h; exact ⟨rfl, rfl⟩
    · cases h
  · rw [List.getElem?_set_ne hi, List.getElem?_replicate] at h
    split at h <;> cases h
theorem ints_eq {F F2 : Hp} : ∀ {ws : List Int} {us vs : List V}, DaAll F (ws.map .int) us → DaAll F2 (ws.map .int) vs → us = vs
  | [], us, vs, h1, h2 => by
    obtain rfl := (show us = [] from h1)
    obtain rfl := (show vs = [] from h2)
    rfl
  | w :: ws, us, vs, h1, h2 => by
    obtain ⟨u, r, rfl, a1, a2⟩ := (show ∃ v r, us = v :: r ∧ Da F (.int w) v ∧ DaAll F (ws.map .int) r from h1)
    obtain ⟨u2, r2, rfl, b1, b2⟩ := (show ∃ v r, vs = v :: r ∧ Da F2 (.int w) v ∧ DaAll F2 (ws.map .int) r from h2)
    rw [show u = V.int w from a1, show u2 = V.int w from b1, ints_eq a2 b2]
theorem ints_any {F F2 : Hp} : ∀ {ws : List Int} {us : List V}, DaAll F (ws.map .int) us → DaAll F2 (ws.map .int) us
  | [], us, h1 => h1
  | w :: ws, us, h1 => by
    obtain ⟨u, r, rfl, a1, a2⟩ := (show ∃ v r, us = v :: r ∧ Da F (.int w) v ∧ DaAll F (ws.map .int) r from h1)
    exact daAll_cons (show Da F2 (.int w) u from a1) (ints_any a2)
theorem ints_leafs {F H : Hp} : ∀ {ds : List Int} {us : List V}, DaAll F (ds.map .int) us → TrAll F H ((ds.map PyData.int).map .d) us := fun h => trAll_leafs h
/-- what was told is our own -/
theorem fresh_end (r : Rl B ad F H s σ) (hS : B.S = []) (hT : B.T = []) (hc : s.cs[n]? = some (.tr t))
    (hS' : ∀ b ∈ S', F b ≠ none) (hH : ∀ b o, H b = some o → H1 b = some o) (r1 : Rl ⟨S', onlyF H t.addrs, H, []⟩ ad1 F1 H1 s1 σ1) {i : Int} {ds : List Int} {v : V} (hv : Da F1 (.tuple [.int i, .list (ds.map .int)]) v) :
    ∃ p q, v = .ref p ∧ Rl B [p] F H1 ⟨[], [.tr (twoT p q i ds)]⟩ [] := by
  obtain ⟨p, xs, rfl, hp, hxs⟩ := (show ∃ a xs, v = .ref a ∧ F1 a = some (.tup xs) ∧ DaAll F1 [.int i, .list (ds.map .int)] xs from hv)
  obtain ⟨v1, r0, rfl, h1, h2⟩ := (show ∃ v r, xs = v :: r ∧ Da F1 (.int i) v ∧ DaAll F1 [.list (ds.map .int)] r from hxs)
  obtain ⟨v2, r3, rfl, h3, h4⟩ := (show ∃ v r, r0 = v :: r ∧ Da F1 (.list (ds.map .int)) v ∧ DaAll F1 [] r from h2)
  obtain rfl := (show r3 = [] from h4)
  obtain rfl := (show v1 = V.int i from h1)
  obtain ⟨q, us, rfl, hq, hus⟩ := (show ∃ a xs, v2 = .ref a ∧ F1 a = some (.lst xs) ∧ DaAll F1 (ds.map .int) xs from h3)
  have fr : ∀ b o, F1 b = some o → F b = none ∧ B.H0 b = none ∧ H1 b = some o := fun b o hb => by
    have hb1 := r1.fh _ _ hb
    by_cases hn : H b = none
    · exact ⟨r.fh.free hn, (r.fresh hn).1, hb1⟩
    · have hF : onlyF H t.addrs b ≠ none := fun z => by
        have := r1.new b z hn
        rw [hb] at this; cases this
      have hm : b ∈ s.cs.flatMap Cell.ads := mem_ads hc (onlyF_in hF)
      refine ⟨(r.inn.fr b hm).1, ?_, hb1⟩
      rcases r.inn.own b hm with z | z | z
      · rw [hS] at z; cases z
      · rw [hT] at z; cases z
      · exact z
  obtain ⟨fp1, fp2, fp3⟩ := fr p _ hp
  obtain ⟨fq1, fq2, fq3⟩ := fr q _ hq
  have hpq : p ≠ q := fun z => by subst z; rw [hp] at hq; cases hq
  have hok : TrOk F H1 (twoT p q i ds) (.ref p) := by
    refine TrOk.of (k := .tup) (vs := [V.int i, .ref q]) fp3 trivial ?_
    refine ⟨_, _, rfl, rfl, _, _, rfl, ?_, rfl⟩
    exact TrOk.of (k := .lst) (vs := us) fq3 trivial (ints_leafs (ints_any hus))
  have hads : ([Cell.tr (twoT p q i ds)]).flatMap Cell.ads = [p, q] := by
    show (p :: ([] ++ ([] ++ ((q :: ([] ++ Tr.addrsL ((ds.map PyData.int).map .d))) ++ [])))) ++ [] = _
    rw [addrsL_leafs]; rfl
  refine ⟨p, q, rfl, r.ff, fun b o hb => hH b o (r.fh _ _ hb), fun b o h1 h2 hb => hH b o (r.hh b o h1 h2 hb), (fun b hb => ?_), r.new, ⟨[p], by rw [hS]; rfl, fun b hb => by rw [List.mem_singleton.mp hb]; exact fp2⟩, by simp, rfl, fun j p2 c2 e1 e2 => ?_, rfl, (fun k x h => by simp at h), ⟨?_, fun b hb j hj => ?_, fun b hb => ?_, fun b hb => ?_, r.inn.old⟩⟩
  · rw [hS, hT] at hb
    rcases hb with hb | hb <;> cases hb
  · cases j with
    | zero =>
      cases e1; cases e2
      exact ⟨ne_none fp3, (fun z => nomatch z), rfl, hok⟩
    | succ j => simp at e1
  · show (([Cell.tr (twoT p q i ds)]).flatMap Cell.ads).Nodup
    rw [hads]
    simp [hpq]
  · have hb : b ∈ [Cell.tr (twoT p q i ds)].flatMap Cell.ads := hb
    cases j with
    | zero =>
      have hj : some p = some b := hj
      cases hj
      exact .inr ⟨_, rfl, rfl⟩
    | succ j => simp at hj
  · have hb : b ∈ [Cell.tr (twoT p q i ds)].flatMap Cell.ads := hb
    rw [hads] at hb
    rcases List.mem_cons.mp hb with rfl | hb
    · exact ⟨fp1, ne_none fp3⟩
    · rw [List.mem_singleton] at hb; subst hb
      exact ⟨fq1, ne_none fq3⟩
  · have hb : b ∈ [Cell.tr (twoT p q i ds)].flatMap Cell.ads := hb
    rw [hads] at hb
    rcases List.mem_cons.mp hb with rfl | hb
    · exact .inr (.inr fp2)
    · rw [List.mem_singleton] at hb; subst hb
      exact .inr (.inr fq2)
theorem tree_da {p : Addr} (r : Rl B ad F H s σ) (hc : s.cs[n]? = some (.tr t)) (hp : ad[n]? = some p) (hb : t.bare = true) (hx : t.data? = some x) : Da (onlyF H t.addrs) x (.ref p) := by
  obtain ⟨_, _, h1, h2⟩ := r.cel n p _ hp hc
  have h3 : TrOk (onlyF H t.addrs) (onlyF H t.addrs) t (.ref p) := h2.bareTo hb fun q hq o ho => by
    unfold onlyF
    rw [if_pos hq]; exact ho
  exact TrOk.da (Same.refl _) h3 (fun _ _ => rfl) hx
theorem ss_fresh (k : Nat) (hB : B.S = [] ∧ B.T = []) (h : ∀ B', SS X B' sts tb) : SS X B sts (freshA k tb) := ⟨fun D s ⟨n, t, x, hk, hc, hb, hx, q⟩ ad F H σ r => by
  obtain ⟨v, hv1, p, hp, rfl⟩ := r.slt k _ hk
  have hd := tree_da r hc hp hb hx
  have r0 : Rl ⟨[], onlyF H t.addrs, H, []⟩ [] (onlyF H t.addrs) H ⟨slotsF s.sl.length k (.d x), []⟩ σ := by
    refine ⟨Same.refl _, onlyF_same _ _, (fun _ _ _ _ h => h), (fun b h => by rcases h with h | h <;> cases h), (fun b h _ => h), ⟨[], rfl, (fun _ h => nomatch h)⟩, List.nodup_nil, rfl, (fun i p c h _ => by simp at h), ?_, fun i y hy => ?_, ⟨List.nodup_nil, (fun _ h => nomatch h), (fun _ h => nomatch h), (fun _ h => nomatch h), (fun _ h => nomatch h)⟩⟩
    · show (slotsF _ _ _).length = _
      unfold slotsF
      rw [List.length_set, List.length_replicate]; exact r.sln
    · obtain ⟨rfl, rfl⟩ := slotsF_get hy
      exact ⟨_, hv1, hd⟩
  refine ((h _).run _ _ q [] _ H σ r0).ends (fun σ2 H2 z => ?_) (fun v H2 z => ?_) (fun σ2 H2 z => ?_) fun σ2 H2 z => ?_
  · obtain ⟨_, _, _, _, z⟩ := z; exact z.elim
  · obtain ⟨ad1, F1, x1, s1, σ1, r1, hv, i, ds, rfl, _, z⟩ := z
    obtain ⟨p2, q2, rfl, r2⟩ := fresh_end r hB.1 hB.2 hc (S' := []) (fun _ h => nomatch h) (fun b o hb => r1.hh b o (fun z => nomatch z) (fun z => nomatch z) hb) r1 hv
    exact ⟨_, _, .r 0, _, _, r2, ⟨p2, rfl, rfl⟩, z p2 q2⟩
  · obtain ⟨_, _, _, _, z⟩ := z; exact z.elim
  · obtain ⟨_, _, _, _, z⟩ := z; exact z.elim⟩
theorem ss_freshW (k w : Nat) (hkw : k ≠ w) (hB : B.S = [] ∧ B.T = []) (h : ∀ B', SS X B' sts tb) : SS X B sts (freshW k w tb) := ⟨fun D s ⟨n, t, x, ws, hk, hc, hb, hx, hw, q⟩ ad F H σ r => by
  obtain ⟨v, hv1, p, hp, rfl⟩ := r.slt k _ hk
  obtain ⟨u, hu1, w0, us, rfl, hw0, hus⟩ := r.slt w _ hw
  have hd := tree_da r hc hp hb hx
  have hw1 := r.fh _ _ hw0
  have hwo : onlyF H t.addrs w0 = none := by
    unfold onlyF
    rw [if_neg fun z => by
      have := (r.inn.fr w0 (mem_ads hc z)).1
      rw [hw0] at this; cases this]
  have r0 : Rl ⟨[w0], onlyF H t.addrs, H, []⟩ [w0] (onlyF H t.addrs) H ⟨(slotsF s.sl.length k (.d x)).set w (some (.r 0)), [.lst (ws.map .int)]⟩ σ := by
    refine ⟨Same.refl _, onlyF_same _ _, (fun _ _ _ _ h => h), (fun b h => ?_), (fun b h _ => h), ⟨[], rfl, (fun _ h => nomatch h)⟩, by simp, rfl, (fun i p c h1 h2 => ?_), ?_, fun i y hy => ?_, ⟨List.nodup_nil, (fun _ h => nomatch h), (fun _ h => nomatch h), (fun _ h => nomatch h), (fun _ h => nomatch h)⟩⟩
    · rcases h with h | h
      · rw [List.mem_singleton.mp h]; exact ne_none hw1
      · cases h
    · cases i with
      | zero =>
        cases h1; cases h2
        exact ⟨ne_none hw1, fun _ => hwo, us, hw1, ints_any hus⟩
      | succ i => simp at h1
    · show ((slotsF _ _ _).set _ _).length = _
      unfold slotsF
      rw [List.length_set, List.length_set, List.length_replicate]; exact r.sln
    · have hy : ((slotsF s.sl.length k (.d x)).set w (some (.r 0)))[i]? = some (some y) := hy
      by_cases hi : w = i
      · subst hi
        rw [List.getElem?_set, if_pos rfl] at hy
        split at hy
        · cases hy; exact ⟨_, hu1, w0, rfl, rfl⟩
        · cases hy
      · rw [List.getElem?_set_ne hi] at hy
        obtain ⟨rfl, rfl⟩ := slotsF_get hy
        exact ⟨_, hv1, hd⟩
  refine ((h _).run _ _ q [w0] _ H σ r0).ends (fun σ2 H2 z => ?_) (fun v H2 z => ?_) (fun σ2 H2 z => ?_) fun σ2 H2 z => ?_
  · obtain ⟨_, _, _, _, z⟩ := z; exact z.elim
  · obtain ⟨ad1, F1, x1, s1, σ1, r1, hv, i, ds, rfl, hcs, z⟩ := z
    have hc0 := hcs ws rfl
    obtain ⟨ad', e1, _⟩ := r1.pre
    have ha0 : ad1[0]? = some w0 := by rw [e1]; rfl
    obtain ⟨_, _, us2, g1, g2⟩ := r1.cel 0 w0 _ ha0 hc0
    have hH : ∀ b o, H b = some o → H2 b = some o := fun b o hb => by
      by_cases e : b = w0
      · subst e
        rw [hw1] at hb; cases hb
        rw [g1, ints_eq g2 hus]
      · exact r1.hh b o (fun z => e (List.mem_singleton.mp z)) (fun z => nomatch z) hb
    obtain ⟨p2, q2, rfl, r2⟩ := fresh_end r hB.1 hB.2 hc (S' := [w0]) (fun b hb => by rw [List.mem_singleton.mp hb]; exact ne_none hw0) hH r1 hv
    exact ⟨_, _, .r 0, _, _, r2, ⟨p2, rfl, rfl⟩, z p2 q2⟩
  · obtain ⟨_, _, _, _, z⟩ := z; exact z.elim
  · obtain ⟨_, _, _, _, z⟩ := z; exact z.elim⟩
end
/-! ## a def to which nothing of our own is handed -/
def bodyT1 (k : Nat) (t : Nat → TSA) : SpT := fun xs cs P => cs = [] ∧ t 0 (retD 0 P) ⟨xs.map some ++ List.replicate k none, cs⟩
section
variable {P : Program} {w : World} {K : PySem.W.Frag} {mg : Str → Option Value} {base : Heap}
theorem okA1 {x qual : Str} {st : Stmt} {f : Addr} {fd : FuncData} {N ps : List Str} {k : Nat} {t : Nat → TSA} (Fn : Fun K x qual st f fd) (S : FnScope N ps (defScope st))
    (hbody : ∀ (cdv : Value) (A : Around) (outer : List Env) (s : Shared) (H : Hp) (E : XK) (B : Bs), B.S = [] ∧ B.T = [] → Room k (A.deeper (PyProof.Rows.envOfC qual (defScope st) s.heap.objs.size f cdv)) → SS (cxOf CX0 P w K mg base N qual (defScope st) f cdv A outer s H E).nox B (defBody st) (t B.S.length)) :
    FnOk P w K mg base CX0 (k + 1) f fd ps (spA ps.length (bodyT1 (N.length - ps.length) t)) :=
  okW Fn S (fun vs H Q E ⟨F, ad, cs, xs, P, hl, _⟩ => hl) fun cdv A outer s H vs Q E hr ⟨F, ad, cs, xs, P, hl, r, hp, ⟨h0, ht⟩, q⟩ => by
    have hsl : Rl (Bs.at ad F H (cs.flatMap Cell.ads)) ad F H ⟨xs.map some ++ List.replicate (N.length - ps.length) none, cs⟩ (start N vs) := by
      refine ⟨r.ff, r.fh, r.hh, r.al, r.new, r.pre, r.nd, r.len, r.cel, ?_, ?_, r.inn⟩
      · unfold L2.start
        simp [Paired.len hp, hl]
      · unfold L2.start
        rw [hl]
        exact paired_slots hp
    subst h0
    have had : ad = [] := List.eq_nil_of_length_eq_zero r.len
    subst had
    have hm : ([] : List Cell).length = ([] : List Addr).length := rfl
    intro pins sh I
    refine thn ((hbody cdv A outer s H E (Bs.at [] F H []) ⟨rfl, rfl⟩ hr).run _ _ ht [] F H _ hsl pins sh I) fun fl s' z => ?_
    cases fl with
    | next =>
      obtain ⟨σ2, H2, I2, ad2, F2, s2, r2, h2⟩ := z
      exact ⟨σ2, H2, I2, q .non H2 (ret_post hm r2 (x := .d .none) rfl h2)⟩
    | brk => obtain ⟨σ2, H2, I2, ad2, F2, s2, r2, h2⟩ := z; exact h2.elim
    | cont => obtain ⟨σ2, H2, I2, ad2, F2, s2, r2, h2⟩ := z; exact h2.elim
    | ret u =>
      obtain ⟨v, σ2, H2, I2, rv, ad2, F2, x2, s2, σ3, r2, hv, h2⟩ := z
      exact ⟨v, σ2, H2, I2, rv, q v H2 (ret_post hm r2 hv h2)⟩
end
end Kr
/-! layer A79 -/
namespace Kr
open PySem L2
/-! ## dicts whose values are lists of our own, as trees -/
def dnN : Option (Nat × List Nat × Kd × Addr × List Tr) → Option (Nat × List Nat × List Key × Addr × List Tr)
  | some (n, pt, .dct ks, q, ts) => some (n, pt, ks, q, ts)
  | _ => none
def dnAt (s : AS) (x : AVal) : Option (Nat × List Nat × List Key × Addr × List Tr) := dnN (nodeAt s x)
def posK {κ : Type} [DecidableEq κ] : List κ → κ → Nat
  | [], _ => 0
  | j :: ks, k => if j = k then 0 else posK ks k + 1
def putKs {κ : Type} [DecidableEq κ] (ks : List κ) (k : κ) : List κ := if k ∈ ks then ks else ks ++ [k]
def putTs {κ : Type} [DecidableEq κ] {α : Type} (ks : List κ) (ts : List α) (k : κ) (t : α) : List α := if k ∈ ks then ts.set (posK ks k) t else ts ++ [t]
section
variable {κ : Type} [DecidableEq κ]
theorem posK_lt {k : κ} : ∀ {ks : List κ}, k ∈ ks → posK ks k < ks.length
  | [], h => by cases h
  | j :: ks, h => by
    rw [posK]
    by_cases e : j = k
    · rw [if_pos e]; simp
    · rw [if_neg e]
      have := posK_lt ((List.mem_cons.mp h).resolve_left (fun z => e z.symm))
      simp only [List.length_cons]; omega
theorem map_none {k : κ} {v : V} : ∀ {ks : List κ} {vs : List V}, k ∉ ks → (ks.zip vs).map (fun kv => if kv.1 = k then (kv.1, v) else kv) = ks.zip vs
  | [], vs, _ => by rw [List.zip_nil_left]; rfl
  | j :: ks, [], _ => by rw [List.zip_nil_right]; rfl
  | j :: ks, w :: vs, h => by
    have h1 : j ≠ k := fun z => h (z ▸ List.mem_cons_self ..)
    rw [List.zip_cons_cons, List.map_cons, if_neg h1, map_none (fun z => h (List.mem_cons_of_mem _ z))]
theorem map_put {k : κ} {v : V} : ∀ {ks : List κ} {vs : List V}, ks.Nodup → k ∈ ks → (ks.zip vs).map (fun kv => if kv.1 = k then (kv.1, v) else kv) = ks.zip (vs.set (posK ks k) v)
  | [], vs, _, h => by cases h
  | j :: ks, [], _, h => by rw [List.zip_nil_right]; simp
  | j :: ks, w :: vs, nd, h => by
    have nd' := List.nodup_cons.mp nd
    rw [List.zip_cons_cons, List.map_cons]
    by_cases e : j = k
    · subst e
      rw [if_pos rfl, map_none nd'.1, posK, if_pos rfl, List.set_cons_zero, List.zip_cons_cons]
    · have hm : k ∈ ks := (List.mem_cons.mp h).resolve_left (fun z => e z.symm)
      rw [if_neg e, map_put nd'.2 hm, posK, if_neg e, List.set_cons_succ, List.zip_cons_cons]
theorem putK_ts {k : κ} {ks : List κ} {vs : List V} {v : V} (nd : ks.Nodup) (h : ks.length = vs.length) : putK (ks.zip vs) k v = (putKs ks k).zip (putTs ks vs k v) := by
  by_cases hk : k ∈ ks
  · unfold putKs putTs
    rw [if_pos hk, if_pos hk, ← map_put nd hk]
    unfold putK
    rw [if_pos]
    rw [valV_any, val_zip_some h]
    unfold memT
    rw [List.any_eq_true]
    exact ⟨k, hk, decide_eq_true rfl⟩
  · unfold putKs putTs
    rw [if_neg hk, if_neg hk]
    refine putK_new h ?_
    unfold memT
    rw [List.any_eq_false]
    intro j hj
    simp only [decide_eq_true_eq]
    exact fun z => hk (z ▸ hj)
theorem putKs_len {k : κ} {α : Type} {ks : List κ} {ts : List α} {t : α} (h : ks.length = ts.length) : (putKs ks k).length = (putTs ks ts k t).length := by
  unfold putKs putTs
  split
  · rw [List.length_set]; exact h
  · simp [h]
end
section
variable {X : Cx} {B : Bs} {ad : List Addr} {F H : Hp} {s : AS} {σ : St} {x y : AVal} {u v : V} {o e a b value : Expr} {pos tpos : Pos} {ta tb tc : TEA}
theorem dnAt_ok {n : Nat} {pt : List Nat} {ks : List Key} {q : Addr} {ts : List Tr} (r : Rl B ad F H s σ) (h : VOk ad F x u) (e : dnAt s x = some (n, pt, ks, q, ts)) : ∃ t p vs, NodeAt ad F H s u n pt (.dct ks) q ts t p vs := by
  unfold dnAt at e
  cases hn : nodeAt s x with
  | none => rw [hn] at e; cases e
  | some N =>
    obtain ⟨n', pt', k, q', ts'⟩ := N
    rw [hn] at e
    cases k with
    | dct ks' => cases e; exact nodeAt_ok r h hn
    | _ => cases e
/-- d[k] = v, v a cell of our own that goes into the tree -/
def putIO (tv to ti : TEA) : TSA := fun D s => tv s fun v s1 => to s1 fun x s2 => ti s2 fun y s3 => ∀ f : Nat → Addr, onSome (grab f s3.cs v) fun g => onSome (dnAt ⟨s3.sl, g.2⟩ x) fun N => onSome y.key? fun k => onSome (treeAt g.2 N.1) fun t => (N.2.2.1.Nodup ∧ N.2.2.2.2.length < sizeLine) ∧ D.nx ⟨mvS f g.2 N.1 (posK N.2.2.1 k :: N.2.1) v s3.sl, g.2.set N.1 (.tr (t.put N.2.1 (.nd (.dct (putKs N.2.2.1 k)) N.2.2.2.1 (putTs N.2.2.1 N.2.2.2.2 k g.1))))⟩
theorem sa_putIO (hu : X.A.units + 64 < cLine) (hv : EA X B value tc) (ho : EA X B o ta) (hi : EA X B e tb) (hs : swapsWith value (some (.Subscript o e tpos)) pos.line X.env = pure false := by rfl) : SA X B (.Assign [.Subscript o e tpos] value pos) (putIO tc ta tb) := ⟨fun D s h ad F H σ r =>
  ws_of (ps_dput (by omega) pe_we pe_we pe_we hs) ((hv.run ad F H s σ _ r h).imp fun w H1 q => by
    obtain ⟨ad1, F1, v, s1, e1, k1, r1, hv1, q⟩ := q
    refine (ho.run ad1 F1 H1 s1 σ _ r1 q).imp fun u H2 q => ?_
    obtain ⟨ad2, F2, x, s2, e2, k2, r2, hx, q⟩ := q
    refine (hi.run ad2 F2 H2 s2 σ _ r2 q).imp fun z H3 q => ?_
    obtain ⟨ad3, F3, y, s3, e3, k3, r3, hy, q⟩ := q
    have hf := adF ad3
    obtain ⟨⟨tr, cs2⟩, hg, ⟨n, pt, ks, q0, ts⟩, hn, k, ek, t, ht, ⟨hk, hl⟩, qq⟩ := q (fun i => (ad3[i]?).getD 0)
    obtain ⟨r4, L4, t4⟩ := grab_ok r3 (Loose.nil r3) hf (hv1.mono (e2.trans e3) (k2.trans k3)) hg
    obtain ⟨t0, p, vs, N⟩ := dnAt_ok r4 (hx.mono e3 k3) hn
    have := AVal.key?_ok ek hy
    subst this
    have := N.val
    subst this
    have htt : t0 = t := by
      have := treeAt_of N.cell
      rw [show treeAt cs2 n = some t from ht] at this
      exact (Option.some.inj this).symm
    subst htt
    have hk : ks.Nodup := hk
    have r5 := r4.mvS (ccs := cs2) (n := n) (pt := posK ks k :: pt) hf v
    have N2 : NodeAt ad3 F3 H3 ⟨mvS (fun i => (ad3[i]?).getD 0) cs2 n (posK ks k :: pt) v s3.sl, cs2⟩ (.ref q0) n pt (.dct ks) q0 ts t0 p vs := ⟨N.cell, N.root, N.here, rfl, N.ho, N.side, N.kids, N.tree⟩
    have hz : ks.length = ts.length := N.side
    have ht2 : ts.length = vs.length := N.kids.length.symm
    have hlen : ks.length = vs.length := hz.trans ht2
    have h2 : TrAll F3 H3 (putTs ks ts k tr) (putTs ks vs k w) := by
      unfold putTs
      split
      · exact N.kids.setT t4 _
      · exact N.kids.snoc1 t4
    refine ⟨q0, _, rfl, DPut.k N.ho (by rw [List.length_zip]; have : ts.length < sizeLine := hl; omega), ad3, F3, _, ?_, qq⟩
    have hc : ∀ b, (Tr.addrsL (putTs ks ts k tr)).count b ≤ (Tr.addrsL ts).count b + (Tr.addrsL ([] ++ [tr])).count b := fun b => by
      unfold putTs
      split
      · rename_i hm
        have hlt : posK ks k < ts.length := by rw [← hz]; exact posK_lt hm
        have := cntL_set (u := tr) (List.getElem?_eq_getElem hlt) b
        rw [List.nil_append, cntL_cons, cntL_nil]
        omega
      · rw [cntL_app, List.nil_append]; exact Nat.le_refl _
    have hs2 : (Kd.dct (putKs ks k)).side H3 q0 (putTs ks ts k tr).length := putKs_len hz
    rw [putK_ts hk hlen]
    exact r5.mutT (k' := .dct (putKs ks k)) L4 N2 rfl hc h2 hs2)⟩
/-- {k: v} with a value of our own -/
def dispIO (tk tv : TEA) : TEA := fun s Q => ∀ f : Nat → Addr, tk ⟨s.sl, s.cs ++ [.tr (.nd (.dct []) (f s.cs.length) [])]⟩ fun x s1 => tv s1 fun y s2 => onSome x.key? fun k => ∀ f2 : Nat → Addr, onSome (grab f2 s2.cs y) fun g => g.2[s.cs.length]? = some (.tr (.nd (.dct []) (f s.cs.length) [])) ∧ Q (.r s.cs.length) ⟨mvS f2 g.2 s.cs.length [0] y s2.sl, g.2.set s.cs.length (.tr (.nd (.dct [k]) (f s.cs.length) [g.1]))⟩
theorem ea_dispIO (hk : EA X B a ta) (hv : EA X B b tb) : EA X B (.Dict [some a] [b] pos) (dispIO ta tb) := ⟨fun ad F H s σ Q r t =>
  we_of (pe_disp (pps_cons pe_we pe_we pps_nil) rfl rfl (by simp) (Nat.le_of_ble_eq_true rfl)) fun p0 hp => by
    have hff := adF (ad ++ [p0])
    obtain ⟨hf, hfp⟩ := hff.of_snoc
    have t0 := t (fun i => ((ad ++ [p0])[i]?).getD 0)
    have r0 := r.newT (k := .dct []) (Loose.nil r) hp rfl (ws := []) (show TrAll F H [] [] from rfl) rfl
    have h0 : (ad ++ [p0])[s.cs.length]? = some p0 := by rw [← r.len]; simp
    rw [← r.len, hfp, r.len] at t0
    refine (hk.run _ F _ _ σ _ r0 t0).imp fun u H1 q => ?_
    obtain ⟨ad1, F1, x, s1, e1, k1, r1, hx, q⟩ := q
    refine (hv.run ad1 F1 H1 s1 σ _ r1 q).imp fun w H2 q => ?_
    obtain ⟨ad2, F2, y, s2, e2, k2, r2, hy, k, ek, q⟩ := q
    obtain ⟨⟨tr, cs2⟩, hg, hc, q⟩ := q (fun i => (ad2[i]?).getD 0)
    obtain ⟨r3, L3, t3⟩ := grab_ok r2 (Loose.nil r2) (adF ad2) hy hg
    have := AVal.key?_ok ek hx
    subst this
    have hpc := ext_get (e1.trans e2) h0
    have r4 := r3.mvS (ccs := cs2) (n := s.cs.length) (pt := [0]) (adF ad2) y
    obtain ⟨_, _, g1, g2⟩ := r3.cel _ p0 _ hpc hc
    obtain ⟨_, vs, g3, g4, g5⟩ := g2.node
    obtain rfl : vs = [] := g5
    have N : NodeAt ad2 F2 H2 ⟨mvS (fun i => (ad2[i]?).getD 0) cs2 s.cs.length [0] y s2.sl, cs2⟩ (.ref p0) s.cs.length [] (.dct []) p0 [] (.nd (.dct []) p0 []) p0 [] := ⟨hc, hpc, rfl, rfl, g3, g4, (show TrAll F2 H2 [] [] from rfl), g2⟩
    refine ⟨g3, [(k, w)], rfl, Nat.le_of_ble_eq_true rfl, ad2, F2, .r s.cs.length, _, Ext.trans ⟨[p0], rfl⟩ (e1.trans e2), k1.trans k2, ?_, ⟨p0, hpc, rfl⟩, q⟩
    exact r4.mutT (k' := .dct [k]) (ys := [tr]) (ws := [w]) L3 N rfl (fun b => by rw [cntL_nil, List.nil_append]; omega) (show ∃ v r, [w] = v :: r ∧ TrOk F2 H2 tr v ∧ TrAll F2 H2 [] r from ⟨w, [], rfl, t3, rfl⟩) rfl⟩
end
/-! ## a tree of our own, known by its address -/
def asA (te : TEA) : TEA := fun s Q => te s fun x s1 => match x with
  | .r n => match s1.cs[n]? with
    | some (.tr (.nd _ q _)) => Q (.a q n []) s1
    | _ => False
  | x => Q x s1
section
variable {X : Cx} {B : Bs} {e : Expr} {te : TEA}
theorem ea_asA (h : EA X B e te) : EA X B e (asA te) := ⟨fun ad F H s σ Q r t => (h.run ad F H s σ _ r t).imp fun v H1 q => by
  obtain ⟨ad1, F1, x, s1, e1, k1, r1, hx, q⟩ := q
  cases x with
  | r n =>
    dsimp only at q
    obtain ⟨a, ha, rfl⟩ := hx
    cases hc : s1.cs[n]? with
    | none => rw [hc] at q; exact q.elim
    | some c =>
      rw [hc] at q
      cases c with
      | tr t =>
        cases t with
        | d _ => exact q.elim
        | nd k q0 xs =>
          obtain ⟨_, _, h2, _⟩ := r1.cel n a _ ha hc
          cases h2
          exact ⟨ad1, F1, .a a n [], s1, e1, k1, r1, rfl, q⟩
      | _ => exact q.elim
  | d _ => exact ⟨ad1, F1, _, s1, e1, k1, r1, hx, q⟩
  | s _ _ => exact ⟨ad1, F1, _, s1, e1, k1, r1, hx, q⟩
  | a _ _ _ => exact ⟨ad1, F1, _, s1, e1, k1, r1, hx, q⟩⟩
theorem asA_v {k : Nat} {s : AS} {Q : VQ} : asA (varA k) s Q = onSome (s.sl[k]?.bind id) fun x => match x with
  | .r n => match s.cs[n]? with
    | some (.tr (.nd _ q _)) => Q (.a q n []) s
    | _ => False
  | x => Q x s := rfl
end
/-! ## a comprehension with a test, whose things are our own -/
section
variable {X : Cx} {B : Bs} {σ : St} {F H : Hp} {elt tg iter c : Expr} {scope : Scope} {pos spos py : Pos} {own : List (Str × Nat)} {y : Str} {ti : TIO} {g : TGA} {tt : TTA} {te : TEA} {ks vs : List Nat}
theorem ea_lcTIf (own : List (Str × Nat)) (o : LcOk X scope own iter) (hi : IO X B tg iter ti) (hg : ∀ s H0 C cl fp, GT (Blk X scope s H0 C cl fp) tg ks g) (ht : ∀ s H0 C cl fp B', ET (Blk X scope s H0 C cl fp) B' c tt) (he : ∀ s H0 C cl fp B', EA (Blk X scope s H0 C cl fp) B' elt te) (hk : ∀ k ∈ ks, k ∈ own.map (·.2) := by decide) :
    EA X B (.ListComp elt [⟨tg, iter, [c], 0⟩] scope pos) (lcT ti g tt te (own.map (·.2))) := ⟨fun ad F H s σ Q r t =>
  we_of (pe_lc (g := gB X scope tg) (tt := tB' X scope c) (te := eB X scope elt) o.calm o.nd pi_wi (blkOk_by o.ok) (fun s H0 C cl fp => ⟨fun pins s' σ H v u Q I r h => h s H0 C cl fp pins s' u I r⟩) (fun s H0 C cl fp => pts_one ⟨fun pins s' σ H Q I h => h s H0 C cl fp pins s' I⟩) (fun s H0 C cl fp => ⟨fun pins s' σ H Q I h => h s H0 C cl fp pins s' I⟩) o.fs)
    (lc_coreT hi hg hk (fun B' ad F H s σ Q r t s0 H0 C cl fp => (ht s0 H0 C cl fp B').run ad F H s σ Q r t) (fun σ H Q Q' h k s0 H0 C cl fp => (h s0 H0 C cl fp).imp k) he r t fun _ _ h => h)⟩
end
end Kr
namespace Kr
open PySem L2
def topS (i : Nat) : Stmt := PySem.Challenge.pw_keyrooms_k30_the_most.main.body.getD i (.Pass ⟨0, 0, 0, 0⟩)
abbrev s_is_kind : Stmt := topS 10
theorem sc_is_kind : FnScope ["thing", "sign"] ["thing"] (defScope s_is_kind) := ⟨rfl, rfl, rfl, by decide +kernel, rfl, by decide +kernel, by decide +kernel⟩
abbrev s_are_keys : Stmt := topS 11
theorem sc_are_keys : FnScope ["thing", "one"] ["thing"] (defScope s_are_keys) := ⟨rfl, rfl, rfl, by decide +kernel, rfl, by decide +kernel, by decide +kernel⟩
abbrev s_is_room : Stmt := topS 12
theorem sc_is_room : FnScope ["thing"] ["thing"] (defScope s_is_room) := ⟨rfl, rfl, rfl, by decide +kernel, rfl, by decide +kernel, by decide +kernel⟩
abbrev s_is_house : Stmt := topS 13
theorem sc_is_house : FnScope ["thing", "room"] ["thing"] (defScope s_is_house) := ⟨rfl, rfl, rfl, by decide +kernel, rfl, by decide +kernel, by decide +kernel⟩
abbrev s_need_house : Stmt := topS 14
theorem sc_need_house : FnScope ["thing"] ["thing"] (defScope s_need_house) := ⟨rfl, rfl, rfl, by decide +kernel, rfl, by decide +kernel, by decide +kernel⟩
abbrev s_need_few : Stmt := topS 17
theorem sc_need_few : FnScope ["house"] ["house"] (defScope s_need_few) := ⟨rfl, rfl, rfl, by decide +kernel, rfl, by decide +kernel, by decide +kernel⟩
abbrev s_counted_kinds : Stmt := topS 18
theorem sc_counted_kinds : FnScope ["kinds", "found", "kind"] ["kinds"] (defScope s_counted_kinds) := ⟨rfl, rfl, rfl, by decide +kernel, rfl, by decide +kernel, by decide +kernel⟩
abbrev s_rooms_of : Stmt := topS 21
theorem sc_rooms_of : FnScope ["number", "k"] ["number"] (defScope s_rooms_of) := ⟨rfl, rfl, rfl, by decide +kernel, rfl, by decide +kernel, by decide +kernel⟩
abbrev s_sets_that_come : Stmt := topS 22
theorem sc_sets_that_come : FnScope ["house", "opened", "found", "layer", "further", "rooms", "k", "there", "order"] ["house"] (defScope s_sets_that_come) := ⟨rfl, rfl, rfl, by decide +kernel, rfl, by decide +kernel, by decide +kernel⟩
abbrev s_need_worths : Stmt := topS 23
theorem sc_need_worths : FnScope ["house", "worths", "worth"] ["house", "worths"] (defScope s_need_worths) := ⟨rfl, rfl, rfl, by decide +kernel, rfl, by decide +kernel, by decide +kernel⟩
abbrev s_worth_of : Stmt := topS 24
theorem sc_worth_of : FnScope ["rooms", "worths", "k"] ["rooms", "worths"] (defScope s_worth_of) := ⟨rfl, rfl, rfl, by decide +kernel, rfl, by decide +kernel, by decide +kernel⟩
abbrev s_most_rooms : Stmt := topS 25
theorem sc_most_rooms : FnScope ["house", "found", "many", "rooms"] ["house"] (defScope s_most_rooms) := ⟨rfl, rfl, rfl, by decide +kernel, rfl, by decide +kernel, by decide +kernel⟩
abbrev s_stuck_sets : Stmt := topS 26
theorem sc_stuck_sets : FnScope ["house", "opened", "rooms"] ["house"] (defScope s_stuck_sets) := ⟨rfl, rfl, rfl, by decide +kernel, rfl, by decide +kernel, by decide +kernel⟩
abbrev s_most_worth : Stmt := topS 27
theorem sc_most_worth : FnScope ["house", "worths", "found", "most", "rooms", "orders", "few", "order"] ["house", "worths"] (defScope s_most_worth) := ⟨rfl, rfl, rfl, by decide +kernel, rfl, by decide +kernel, by decide +kernel⟩
abbrev s_law_pool : Stmt := topS 29
theorem sc_law_pool : FnScope ["script", "k", "cell"] ["script", "k"] (defScope s_law_pool) := ⟨rfl, rfl, rfl, by decide +kernel, rfl, by decide +kernel, by decide +kernel⟩
abbrev s_law_draw : Stmt := topS 30
theorem sc_law_draw : FnScope ["pool", "many", "found", "x"] ["pool", "many"] (defScope s_law_draw) := ⟨rfl, rfl, rfl, by decide +kernel, rfl, by decide +kernel, by decide +kernel⟩
abbrev s_law_kinds : Stmt := topS 31
theorem sc_law_kinds : FnScope ["pool", "many", "kinds", "k"] ["pool", "many", "kinds"] (defScope s_law_kinds) := ⟨rfl, rfl, rfl, by decide +kernel, rfl, by decide +kernel, by decide +kernel⟩
abbrev s_law_words : Stmt := topS 32
theorem sc_law_words : FnScope ["pool", "found", "k", "word", "s"] ["pool"] (defScope s_law_words) := ⟨rfl, rfl, rfl, by decide +kernel, rfl, by decide +kernel, by decide +kernel⟩
abbrev s_law_house : Stmt := topS 33
theorem sc_law_house : FnScope ["pool", "many", "kinds", "locks", "rooms", "k", "some"] ["pool", "many"] (defScope s_law_house) := ⟨rfl, rfl, rfl, by decide +kernel, rfl, by decide +kernel, by decide +kernel⟩
abbrev s_law_next : Stmt := topS 34
theorem sc_law_next : FnScope ["house", "order", "hand", "k", "kind", "found", "lacks"] ["house", "order"] (defScope s_law_next) := ⟨rfl, rfl, rfl, by decide +kernel, rfl, by decide +kernel, by decide +kernel⟩
abbrev s_law_orders : Stmt := topS 35
theorem sc_law_orders : FnScope ["house", "found", "pile", "order", "k"] ["house"] (defScope s_law_orders) := ⟨rfl, rfl, rfl, by decide +kernel, rfl, by decide +kernel, by decide +kernel⟩
abbrev s_law_copy : Stmt := topS 36
theorem sc_law_copy : FnScope ["thing", "one"] ["thing"] (defScope s_law_copy) := ⟨rfl, rfl, rfl, by decide +kernel, rfl, by decide +kernel, by decide +kernel⟩
abbrev s_law_worths : Stmt := topS 37
theorem sc_law_worths : FnScope ["pool", "many", "kind", "k"] ["pool", "many"] (defScope s_law_worths) := ⟨rfl, rfl, rfl, by decide +kernel, rfl, by decide +kernel, by decide +kernel⟩
abbrev s_law_worth : Stmt := topS 38
theorem sc_law_worth : FnScope ["worths", "order", "k"] ["worths", "order"] (defScope s_law_worth) := ⟨rfl, rfl, rfl, by decide +kernel, rfl, by decide +kernel, by decide +kernel⟩
abbrev s_law_best : Stmt := topS 39
theorem sc_law_best : FnScope ["worths", "every", "most", "order", "some", "few"] ["worths", "every"] (defScope s_law_best) := ⟨rfl, rfl, rfl, by decide +kernel, rfl, by decide +kernel, by decide +kernel⟩
abbrev s_law_sets_right : Stmt := topS 40
theorem sc_law_sets_right : FnScope ["house", "due", "again", "found", "at", "rooms"] ["house", "due"] (defScope s_law_sets_right) := ⟨rfl, rfl, rfl, by decide +kernel, rfl, by decide +kernel, by decide +kernel⟩
abbrev s_law : Stmt := topS 41
theorem sc_law : FnScope ["script", "k", "pool", "house", "worths", "every", "most", "order", "due", "handed", "again", "found", "stuck", "sets", "rooms"] ["script"] (defScope s_law) := ⟨rfl, rfl, rfl, by decide +kernel, rfl, by decide +kernel, by decide +kernel⟩
abbrev s_Opened_init : Stmt := inClass (topS 19) 0
theorem sc_Opened_init : FnScope ["self", "house", "locks", "keys"] ["self", "house"] (defScope s_Opened_init) := ⟨rfl, rfl, rfl, by decide +kernel, rfl, by decide +kernel, by decide +kernel⟩
abbrev s_Opened_hand_at : Stmt := inClass (topS 19) 1
theorem sc_Opened_hand_at : FnScope ["self", "rooms", "last", "found", "kind"] ["self", "rooms"] (defScope s_Opened_hand_at) := ⟨rfl, rfl, rfl, by decide +kernel, rfl, by decide +kernel, by decide +kernel⟩
abbrev s_Opened_next_at : Stmt := inClass (topS 19) 2
theorem sc_Opened_next_at : FnScope ["self", "rooms", "hand", "found", "k", "lacks", "kind"] ["self", "rooms"] (defScope s_Opened_next_at) := ⟨rfl, rfl, rfl, by decide +kernel, rfl, by decide +kernel, by decide +kernel⟩
set_option genInjectivity false
set_option genSizeOf false
set_option genSizeOfSpec false
structure Tx (K : PySem.W.Frag) (mg : Str → Option Value) where
  f_is_kind : Addr
  d_is_kind : FuncData
  F_is_kind : Fun K "is_kind" "is_kind" s_is_kind f_is_kind d_is_kind
  b_is_kind : Binds K d_is_kind ["thing"] []
  g_is_kind : mg "is_kind" = some (.ref f_is_kind)
  f_are_keys : Addr
  d_are_keys : FuncData
  F_are_keys : Fun K "are_keys" "are_keys" s_are_keys f_are_keys d_are_keys
  b_are_keys : Binds K d_are_keys ["thing"] []
  g_are_keys : mg "are_keys" = some (.ref f_are_keys)
  f_is_room : Addr
  d_is_room : FuncData
  F_is_room : Fun K "is_room" "is_room" s_is_room f_is_room d_is_room
  b_is_room : Binds K d_is_room ["thing"] []
  g_is_room : mg "is_room" = some (.ref f_is_room)
  f_is_house : Addr
  d_is_house : FuncData
  F_is_house : Fun K "is_house" "is_house" s_is_house f_is_house d_is_house
  b_is_house : Binds K d_is_house ["thing"] []
  g_is_house : mg "is_house" = some (.ref f_is_house)
  f_need_house : Addr
  d_need_house : FuncData
  F_need_house : Fun K "need_house" "need_house" s_need_house f_need_house d_need_house
  b_need_house : Binds K d_need_house ["thing"] []
  g_need_house : mg "need_house" = some (.ref f_need_house)
  f_need_few : Addr
  d_need_few : FuncData
  F_need_few : Fun K "need_few" "need_few" s_need_few f_need_few d_need_few
  b_need_few : Binds K d_need_few ["house"] []
  g_need_few : mg "need_few" = some (.ref f_need_few)
  f_counted_kinds : Addr
  d_counted_kinds : FuncData
  F_counted_kinds : Fun K "counted_kinds" "counted_kinds" s_counted_kinds f_counted_kinds d_counted_kinds
  b_counted_kinds : Binds K d_counted_kinds ["kinds"] []
  g_counted_kinds : mg "counted_kinds" = some (.ref f_counted_kinds)
  f_rooms_of : Addr
  d_rooms_of : FuncData
  F_rooms_of : Fun K "rooms_of" "rooms_of" s_rooms_of f_rooms_of d_rooms_of
  b_rooms_of : Binds K d_rooms_of ["number"] []
  g_rooms_of : mg "rooms_of" = some (.ref f_rooms_of)
  f_sets_that_come : Addr
  d_sets_that_come : FuncData
  F_sets_that_come : Fun K "sets_that_come" "sets_that_come" s_sets_that_come f_sets_that_come d_sets_that_come
  b_sets_that_come : Binds K d_sets_that_come ["house"] []
  g_sets_that_come : mg "sets_that_come" = some (.ref f_sets_that_come)
  f_need_worths : Addr
  d_need_worths : FuncData
  F_need_worths : Fun K "need_worths" "need_worths" s_need_worths f_need_worths d_need_worths
  b_need_worths : Binds K d_need_worths ["house", "worths"] []
  g_need_worths : mg "need_worths" = some (.ref f_need_worths)
  f_worth_of : Addr
  d_worth_of : FuncData
  F_worth_of : Fun K "worth_of" "worth_of" s_worth_of f_worth_of d_worth_of
  b_worth_of : Binds K d_worth_of ["rooms", "worths"] []
  g_worth_of : mg "worth_of" = some (.ref f_worth_of)
  f_most_rooms : Addr
  d_most_rooms : FuncData
  F_most_rooms : Fun K "most_rooms" "most_rooms" s_most_rooms f_most_rooms d_most_rooms
  b_most_rooms : Binds K d_most_rooms ["house"] []
  g_most_rooms : mg "most_rooms" = some (.ref f_most_rooms)
  f_stuck_sets : Addr
  d_stuck_sets : FuncData
  F_stuck_sets : Fun K "stuck_sets" "stuck_sets" s_stuck_sets f_stuck_sets d_stuck_sets
  b_stuck_sets : Binds K d_stuck_sets ["house"] []
  g_stuck_sets : mg "stuck_sets" = some (.ref f_stuck_sets)
  f_most_worth : Addr
  d_most_worth : FuncData
  F_most_worth : Fun K "most_worth" "most_worth" s_most_worth f_most_worth d_most_worth
  b_most_worth : Binds K d_most_worth ["house", "worths"] []
  g_most_worth : mg "most_worth" = some (.ref f_most_worth)
  f_law_pool : Addr
  d_law_pool : FuncData
  F_law_pool : Fun K "_law_pool" "_law_pool" s_law_pool f_law_pool d_law_pool
  b_law_pool : Binds K d_law_pool ["script", "k"] []
  g_law_pool : mg "_law_pool" = some (.ref f_law_pool)
  f_law_draw : Addr
  d_law_draw : FuncData
  F_law_draw : Fun K "_law_draw" "_law_draw" s_law_draw f_law_draw d_law_draw
  b_law_draw : Binds K d_law_draw ["pool", "many"] []
  g_law_draw : mg "_law_draw" = some (.ref f_law_draw)
  f_law_kinds : Addr
  d_law_kinds : FuncData
  F_law_kinds : Fun K "_law_kinds" "_law_kinds" s_law_kinds f_law_kinds d_law_kinds
  b_law_kinds : Binds K d_law_kinds ["pool", "many", "kinds"] []
  g_law_kinds : mg "_law_kinds" = some (.ref f_law_kinds)
  f_law_words : Addr
  d_law_words : FuncData
  F_law_words : Fun K "_law_words" "_law_words" s_law_words f_law_words d_law_words
  b_law_words : Binds K d_law_words ["pool"] []
  g_law_words : mg "_law_words" = some (.ref f_law_words)
  f_law_house : Addr
  d_law_house : FuncData
  F_law_house : Fun K "_law_house" "_law_house" s_law_house f_law_house d_law_house
  b_law_house : Binds K d_law_house ["pool", "many"] []
  g_law_house : mg "_law_house" = some (.ref f_law_house)
  f_law_next : Addr
  d_law_next : FuncData
  F_law_next : Fun K "_law_next" "_law_next" s_law_next f_law_next d_law_next
  b_law_next : Binds K d_law_next ["house", "order"] []
  g_law_next : mg "_law_next" = some (.ref f_law_next)
  f_law_orders : Addr
  d_law_orders : FuncData
  F_law_orders : Fun K "_law_orders" "_law_orders" s_law_orders f_law_orders d_law_orders
  b_law_orders : Binds K d_law_orders ["house"] []
  g_law_orders : mg "_law_orders" = some (.ref f_law_orders)
  f_law_copy : Addr
  d_law_copy : FuncData
  F_law_copy : Fun K "_law_copy" "_law_copy" s_law_copy f_law_copy d_law_copy
  b_law_copy : Binds K d_law_copy ["thing"] []
  g_law_copy : mg "_law_copy" = some (.ref f_law_copy)
  f_law_worths : Addr
  d_law_worths : FuncData
  F_law_worths : Fun K "_law_worths" "_law_worths" s_law_worths f_law_worths d_law_worths
  b_law_worths : Binds K d_law_worths ["pool", "many"] []
  g_law_worths : mg "_law_worths" = some (.ref f_law_worths)
  f_law_worth : Addr
  d_law_worth : FuncData
  F_law_worth : Fun K "_law_worth" "_law_worth" s_law_worth f_law_worth d_law_worth
  b_law_worth : Binds K d_law_worth ["worths", "order"] []
  g_law_worth : mg "_law_worth" = some (.ref f_law_worth)
  f_law_best : Addr
  d_law_best : FuncData
  F_law_best : Fun K "_law_best" "_law_best" s_law_best f_law_best d_law_best
  b_law_best : Binds K d_law_best ["worths", "every"] []
  g_law_best : mg "_law_best" = some (.ref f_law_best)
  f_law_sets_right : Addr
  d_law_sets_right : FuncData
  F_law_sets_right : Fun K "_law_sets_right" "_law_sets_right" s_law_sets_right f_law_sets_right d_law_sets_right
  b_law_sets_right : Binds K d_law_sets_right ["house", "due"] []
  g_law_sets_right : mg "_law_sets_right" = some (.ref f_law_sets_right)
  f_law : Addr
  d_law : FuncData
  F_law : Fun K "law" "law" s_law f_law d_law
  b_law : Binds K d_law ["script"] []
  g_law : mg "law" = some (.ref f_law)
  f_Opened_init : Addr
  d_Opened_init : FuncData
  F_Opened_init : Fun K "__init__" "Opened.__init__" s_Opened_init f_Opened_init d_Opened_init
  b_Opened_init : Binds K d_Opened_init ["self", "house"] []
  f_Opened_hand_at : Addr
  d_Opened_hand_at : FuncData
  F_Opened_hand_at : Fun K "hand_at" "Opened.hand_at" s_Opened_hand_at f_Opened_hand_at d_Opened_hand_at
  b_Opened_hand_at : Binds K d_Opened_hand_at ["self", "rooms"] []
  f_Opened_next_at : Addr
  d_Opened_next_at : FuncData
  F_Opened_next_at : Fun K "next_at" "Opened.next_at" s_Opened_next_at f_Opened_next_at d_Opened_next_at
  b_Opened_next_at : Binds K d_Opened_next_at ["self", "rooms"] []
  O : OT
  c_Opened : Cls K O.opened
  mk_Opened : Mk K O.opened f_Opened_init
  g_Opened : mg "Opened" = some (.ref O.opened)
  na_Opened_locks : NoAttr K O.opened "locks"
  na_Opened_within : NoAttr K O.opened "within"
  na_Opened_many : NoAttr K O.opened "many"
  na_Opened_all_rooms : NoAttr K O.opened "all_rooms"
  na_Opened_hands : NoAttr K O.opened "hands"
  na_Opened_goings : NoAttr K O.opened "goings"
  na_Opened_ends : NoAttr K O.opened "ends"
  me_Opened_hand_at : Meth K O.opened "hand_at" f_Opened_hand_at
  me_Opened_next_at : Meth K O.opened "next_at" f_Opened_next_at
  m_isinstance : mg "isinstance" = none
  m_str : mg "str" = none
  m_len : mg "len" = none
  m_list : mg "list" = none
  m_tuple : mg "tuple" = none
  m_sorted : mg "sorted" = none
  m_range : mg "range" = none
  m_bool : mg "bool" = none
  m_int : mg "int" = none
  m_sum : mg "sum" = none
  m_max : mg "max" = none
  m_min : mg "min" = none
  m_enumerate : mg "enumerate" = none
  m_dict : mg "dict" = none
  c_LETTERS : Mg mg "LETTERS" (.str "abcdefghijklmnopqrstuvwxyz")
  c_LONGEST_KIND : Mg mg "LONGEST_KIND" (.int 4)
  c_MOST_LOCKS : Mg mg "MOST_LOCKS" (.int 4)
  c_MOST_ROOMS : Mg mg "MOST_ROOMS" (.int 12)
/-! part base -/
open PySem L2
section
variable {P : Program} {w : World} {K : PySem.W.Frag} {mg : Str → Option Value} {base : Heap}
theorem ok_is_kind (T : Tx K mg) : FnOk P w K mg base CX0 1 T.f_is_kind T.d_is_kind ["thing"] (spF 1 (pre1 SzD) (fn1 fun d => .bool (isKindD d))) := by
  refine okF T.F_is_kind sc_is_kind fun X cdv A outer s H0 E vs F H ds Q hX hr hl hs ha hp q => ?_
  obtain ⟨d, rfl, hz⟩ := hp
  have hnx := SzD.noEx hz
  obtain ⟨v, rfl, hd⟩ := daAll1 ha
  subst hX
  have q : ∀ v F2 H2, Gr F H F2 H2 → Da F2 (.bool (isKindD d)) v → Q v H2 := q
  have hu := hr.units
  by_cases hstr : ∃ x, d = .str x
  · obtain ⟨x, rfl⟩ := hstr
    have hx : x.length ≤ 100000 := hz
    refine ss_cons (ws_ifD (DT.of_w (dw_or (dt_not (dt_val (de_isi T.m_isinstance T.m_str (de_v 0 hd) (kit_str _)))) (fun _ => dw_or1 (dt_not (dt_lele de_int (de_lenS T.m_len (de_v 0 hd) (sz100 hx)) (de_of (ve_glob T.c_LONGEST_KIND) rfl)))))) hs (fun hb F2 H2 g => ?_) (fun hb F2 H2 g => ?_))
    · refine ss_one (ws_retD de_bool g.fh fun v F3 H3 g3 hv => q v F3 H3 (g.trans g3) ?_)
      have : isKind x = false := by
        unfold isKind
        revert hb
        cases decide ((1 : Int) ≤ x.length) <;> cases decide ((x.length : Int) ≤ 4) <;> simp
      show Da F3 (.bool (isKind x)) v
      rw [this]; exact hv
    · refine ss_nil (ss_one (ws_retD (de_c (c_eqNil hu (de_lcIf (xs := x.cps.toList) [("sign", 1)] (lcok sc_is_kind (by decide +kernel)) (fun c => !decide (c ∈ letters.cps.toList)) (fun c => .str ⟨#[c]⟩) (di_str (de_v 0 (g.da hd))).i (sz100 hx) fun c hc v F' H' g' hv => ?_))) g.fh fun v F3 H3 g3 hv => q v F3 H3 (g.trans g3) ?_))
      · exact gb_name 1 sc_is_kind.nd ⟨rfl, rfl, fun _ _ _ _ _ => dt_c (c_notInSign (de_v 1 hv) (de_of (ve_glob T.c_LETTERS) rfl)), fun _ _ _ _ _ _ => de_v 1 hv⟩
      · have h1 : (decide ((1 : Int) ≤ x.length) && decide ((x.length : Int) ≤ 4)) = true := by
          revert hb
          cases (decide ((1 : Int) ≤ x.length) && decide ((x.length : Int) ≤ 4)) <;> simp
        show Da F3 (.bool (isKind x)) v
        unfold isKind
        rw [h1, Bool.true_and, ← filter_none]
        exact hv
  · have hk : isKindD d = false := by
      cases d with
      | str x => exact absurd ⟨x, rfl⟩ hstr
      | _ => rfl
    have hn : kitB (tyName d) "str" = some false := by
      rw [kit_str]
      cases d with
      | str x => exact absurd ⟨x, rfl⟩ hstr
      | _ => rfl
    refine ss_cons (ws_ifD (b := true) (DT.of_w (dw_or (cc := true) (dt_not (dt_val (de_isi T.m_isinstance T.m_str (de_v 0 hd) hn))) (fun z => nomatch z))) hs (fun hb F2 H2 g => ?_) (fun hb F2 H2 g => nomatch hb))
    refine ss_one (ws_retD de_bool g.fh fun v F3 H3 g3 hv => q v F3 H3 (g.trans g3) ?_)
    rw [hk]; exact hv
theorem x_is_kind {X : Cx} {σ : St} {F H : Hp} {e : Expr} {d : PyData} {p pos : Pos} {k : Nat} (T : Tx X.K X.mg) (hr : Room k X.A) (h : DE X e σ F H d) (hz : SzD d) (hk : 1 ≤ k := by decide) (hg : Gl X "is_kind" := by rfl) (l : Pl X e [] pos := by exact ⟨rfl, rfl⟩) :
    DE X (.Call (.Name "is_kind" p) [e] [] pos) σ F H (.bool (isKindD d)) := de_call (ok_is_kind T) (hr.mono hk) T.g_is_kind T.F_is_kind.kp T.b_is_kind (dl_cons h dl_nil l.he) rfl ⟨d, rfl, hz⟩ rfl hg (by decide) l
theorem ok_are_keys (T : Tx K mg) : FnOk P w K mg base CX0 2 T.f_are_keys T.d_are_keys ["thing"] (spF 1 (pre1 SzD) (fn1 fun d => .bool (areKeysD d))) := by
  refine okF T.F_are_keys sc_are_keys fun X cdv A outer s H0 E vs F H ds Q hX hr hl hs ha hp q => ?_
  obtain ⟨d, rfl, hz⟩ := hp
  have hnx := SzD.noEx hz
  obtain ⟨v, rfl, hd⟩ := daAll1 ha
  subst hX
  have q : ∀ v F2 H2, Gr F H F2 H2 → Da F2 (.bool (areKeysD d)) v → Q v H2 := q
  have hu := hr.units
  by_cases hstr : ∃ xs, d = .list xs
  · obtain ⟨xs, rfl⟩ := hstr
    refine ss_one (ws_retD (de_and (de_isi T.m_isinstance T.m_list (de_v 0 hd) (kit_list _)) fun _ => de_one (de_c (c_eqNil hu (de_lcIf (Dx := fun d => d) (xs := xs) [("one", 1)] (lcok sc_are_keys (by decide +kernel)) (fun d => !isKindD d) (fun d => d) (by rw [List.map_id']; exact (di_list (de_v 0 hd)).i) (sz100 hz.1) fun x hx v F' H' g' hv => ?_)))) hs fun v F3 H3 g3 hv => q v F3 H3 g3 ?_)
    · exact gb_name 1 sc_are_keys.nd ⟨rfl, rfl, fun _ _ _ _ _ => dt_not (dt_val (x_is_kind T hr (de_v 1 hv) (hz.2.mem hx))), fun _ _ _ _ _ _ => de_v 1 hv⟩
    · show Da F3 (.bool (xs.all isKindD)) v
      rw [filter_none, Bool.true_and] at hv
      exact hv
  · have hk : areKeysD d = false := by
      cases d with
      | list x => exact absurd ⟨x, rfl⟩ hstr
      | _ => rfl
    have hn : kitB (tyName d) "list" = some false := by
      rw [kit_list]
      cases d with
      | list x => exact absurd ⟨x, rfl⟩ hstr
      | _ => rfl
    refine ss_one (ws_retD (de_and (cc := true) (de_isi T.m_isinstance T.m_list (de_v 0 hd) hn) fun z => nomatch z) hs fun v F3 H3 g3 hv => q v F3 H3 g3 ?_)
    rw [hk]; exact hv
theorem x_are_keys {X : Cx} {σ : St} {F H : Hp} {e : Expr} {d : PyData} {p pos : Pos} {k : Nat} (T : Tx X.K X.mg) (hr : Room k X.A) (h : DE X e σ F H d) (hz : SzD d) (hk : 2 ≤ k := by decide) (hg : Gl X "are_keys" := by rfl) (l : Pl X e [] pos := by exact ⟨rfl, rfl⟩) :
    DE X (.Call (.Name "are_keys" p) [e] [] pos) σ F H (.bool (areKeysD d)) := de_call (ok_are_keys T) (hr.mono hk) T.g_are_keys T.F_are_keys.kp T.b_are_keys (dl_cons h dl_nil l.he) rfl ⟨d, rfl, hz⟩ rfl hg (by decide) l
end
open PySem L2
section
variable {P : Program} {w : World} {K : PySem.W.Frag} {mg : Str → Option Value} {base : Heap}
theorem ne2 {n : Nat} (h : n ≠ 2) (z : (!decide ((n : Int) = 2)) = false) : False := by
  simp at z; omega
theorem room_len : ∀ {ds : List PyData}, ds.length ≠ 2 → isRoomD (.tuple ds) = false
  | [], _ => rfl
  | [_], _ => rfl
  | [_, _], h => absurd rfl h
  | _ :: _ :: _ :: _, _ => rfl
theorem house_len : ∀ {ds : List PyData}, ds.length ≠ 2 → isHouseD (.tuple ds) = false
  | [], _ => rfl
  | [_], _ => rfl
  | [_, _], h => absurd rfl h
  | a :: b :: c :: r, _ => by cases b <;> rfl
theorem room_out {a b : PyData} {n : Int} (h : ((!true) || ((!decide ((2 : Int) = n)) || ((!areKeysD a) || (!areKeysD b)))) = true) (hn : n = 2) : isRoomD (.tuple [a, b]) = false := by
  subst hn
  simp only [isRoomD]
  revert h
  cases areKeysD a <;> cases areKeysD b <;> simp
theorem room_in {a b : PyData} {n : Int} (h : ((!true) || ((!decide ((2 : Int) = n)) || ((!areKeysD a) || (!areKeysD b)))) = false) : areKeysD a = true ∧ areKeysD b = true := by
  revert h
  cases areKeysD a <;> cases areKeysD b <;> simp
theorem room_is {ks : List Str} {b : PyData} (h1 : areKeysD (ksD ks) = true) (h2 : areKeysD b = true) : isRoomD (.tuple [ksD ks, b]) = ((decide ((1 : Int) ≤ (ks.map PyData.str).length) && decide (((ks.map PyData.str).length : Int) ≤ 4)) && decide (ks = srt ks)) := by
  simp only [isRoomD, h1, h2, Bool.true_and]
  simp only [ksD, strsOf_strs]
def isListD : PyData → Bool
  | .list _ => true
  | _ => false
theorem kit_list' (d : PyData) : kitB (tyName d) "list" = some (isListD d) := by rw [kit_list]; cases d <;> rfl
theorem house_out {a b : PyData} {n : Int} (h : ((!true) || ((!decide ((2 : Int) = n)) || ((!areKeysD a) || (!isListD b)))) = true) (hn : n = 2) : isHouseD (.tuple [a, b]) = false := by
  subst hn
  cases b with
  | list rs => simp only [isHouseD]; revert h; cases areKeysD a <;> simp [isListD]
  | _ => rfl
theorem house_in {a b : PyData} {n : Int} (h : ((!true) || ((!decide ((2 : Int) = n)) || ((!areKeysD a) || (!isListD b)))) = false) : areKeysD a = true ∧ ∃ rs, b = .list rs := by
  cases b with
  | list rs => revert h; cases areKeysD a <;> simp [isListD]
  | _ => simp [isListD] at h
theorem house_is {a : PyData} {rs : List PyData} (h1 : areKeysD a = true) : isHouseD (.tuple [a, .list rs]) = rs.all isRoomD := by simp only [isHouseD, h1, Bool.true_and]
theorem areKeysD_list {d : PyData} (h : areKeysD d = true) : ∃ ks : List Str, d = ksD ks ∧ (∀ k ∈ ks, isKind k = true) := by
  cases d with
  | list ds =>
    have h' : ds.all isKindD = true := h
    refine ⟨strsOf ds, congrArg PyData.list (strsOf_eq h'), fun k hk => ?_⟩
    have : PyData.str k ∈ ds := by rw [strsOf_eq h']; exact List.mem_map_of_mem hk
    exact (List.all_eq_true.mp h') _ this
  | _ => simp [areKeysD] at h
theorem tup2_cases (d : PyData) : (∃ a b, d = .tuple [a, b]) ∨ (∃ ds, d = .tuple ds ∧ ds.length ≠ 2) ∨ (kitB (tyName d) "tuple" = some false ∧ isRoomD d = false ∧ isHouseD d = false) := by
  cases d with
  | tuple ds =>
    match ds with
    | [a, b] => exact .inl ⟨a, b, rfl⟩
    | [] => exact .inr (.inl ⟨_, rfl, by simp⟩)
    | [_] => exact .inr (.inl ⟨_, rfl, by simp⟩)
    | _ :: _ :: _ :: _ => exact .inr (.inl ⟨_, rfl, by simp⟩)
  | _ => exact .inr (.inr ⟨kit_tuple _, rfl, rfl⟩)
theorem ok_is_room (T : Tx K mg) : FnOk P w K mg base CX0 3 T.f_is_room T.d_is_room ["thing"] (spF 1 (pre1 SzD) (fn1 fun d => .bool (isRoomD d))) := by
  refine okF T.F_is_room sc_is_room fun X cdv A outer s H0 E vs F H ds Q hX hr hl hs ha hp q => ?_
  obtain ⟨d, rfl, hz⟩ := hp
  have hnx := SzD.noEx hz
  obtain ⟨v, rfl, hd⟩ := daAll1 ha
  subst hX
  clear hl
  have q : ∀ v F2 H2, Gr F H F2 H2 → Da F2 (.bool (isRoomD d)) v → Q v H2 := q
  have hu := hr.units
  rcases tup2_cases d with ⟨a, b, rfl⟩ | ⟨ds, rfl, hne⟩ | ⟨hk, h0, _⟩
  · have hna := SzD.noEx hz.1
    have hnb := SzD.noEx hz.2.1
    refine ss_cons (ws_ifD (DT.of_w (dw_or (dt_not (dt_val (de_isi (bb := true) T.m_isinstance T.m_tuple (de_v 0 hd) (kit_tuple _)))) (fun _ => dw_or (dt_c (c_neI (de_lenT T.m_len (de_v 0 hd)) de_int))
      (fun _ => dw_or (dt_not (dt_val (x_are_keys T hr (de_ixT (d := a) (de_v 0 hd) de_int rfl) hz.1)))
      (fun _ => dw_or1 (dt_not (dt_val (x_are_keys T hr (de_ixT (d := b) (de_v 0 hd) de_int rfl) hz.2.1)))))))) hs (fun hb F2 H2 g => ?_) (fun hb F2 H2 g => ?_))
    · refine ss_one (ws_retD de_bool g.fh fun v F3 H3 g3 hv => q v F3 H3 (g.trans g3) ?_)
      rw [room_out hb rfl]; exact hv
    · obtain ⟨ha1, hb1⟩ := room_in hb
      obtain ⟨ks, rfl, hks⟩ := areKeysD_list ha1
      refine ss_nil (ss_one (ws_retD (de_and (de_lele de_int (de_lenL T.m_len (de_ixT (d := ksD ks) (de_v 0 (g.da hd)) de_int rfl)) (de_of (ve_glob T.c_MOST_LOCKS) rfl)) fun _ => de_one (de_c (c_is (c_eq hu (de_ixT (d := ksD ks) (de_v 0 (g.da hd)) de_int rfl) (de_sortedS T.m_sorted (de_ixT (d := ksD ks) (de_v 0 (g.da hd)) de_int rfl)) (lay_ks hks).shaped (lay_ks (fun k hk => hks k (mem_srt.mp hk))).shaped) (eqv_ks ks (srt ks))))) g.fh fun v F3 H3 g3 hv => q v F3 H3 (g.trans g3) ?_))
      rw [room_is ha1 hb1]; exact hv
  · refine ss_cons (ws_ifD (b := true) (DT.of_w (dw_or (cc := true) (dt_not (dt_val (de_isi (bb := true) T.m_isinstance T.m_tuple (de_v 0 hd) (kit_tuple _)))) (fun _ => dt_is_w (dw_or (cc := true) (dt_c (c_neI (de_lenT T.m_len (de_v 0 hd)) de_int)) (fun z => (ne2 hne z).elim)) (Bool.or_true _)))) hs (fun hb F2 H2 g => ?_) (fun hb F2 H2 g => nomatch hb))
    refine ss_one (ws_retD de_bool g.fh fun v F3 H3 g3 hv => q v F3 H3 (g.trans g3) ?_)
    rw [room_len hne]; exact hv
  · refine ss_cons (ws_ifD (b := true) (DT.of_w (dw_or (cc := true) (dt_not (dt_val (de_isi T.m_isinstance T.m_tuple (de_v 0 hd) hk))) (fun z => nomatch z))) hs (fun hb F2 H2 g => ?_) (fun hb F2 H2 g => nomatch hb))
    refine ss_one (ws_retD de_bool g.fh fun v F3 H3 g3 hv => q v F3 H3 (g.trans g3) ?_)
    rw [h0]; exact hv
theorem x_is_room {X : Cx} {σ : St} {F H : Hp} {e : Expr} {d : PyData} {p pos : Pos} {k : Nat} (T : Tx X.K X.mg) (hr : Room k X.A) (h : DE X e σ F H d) (hz : SzD d) (hk : 3 ≤ k := by decide) (hg : Gl X "is_room" := by rfl) (l : Pl X e [] pos := by exact ⟨rfl, rfl⟩) :
    DE X (.Call (.Name "is_room" p) [e] [] pos) σ F H (.bool (isRoomD d)) := de_call (ok_is_room T) (hr.mono hk) T.g_is_room T.F_is_room.kp T.b_is_room (dl_cons h dl_nil l.he) rfl ⟨d, rfl, hz⟩ rfl hg (by decide) l
theorem ok_is_house (T : Tx K mg) : FnOk P w K mg base CX0 4 T.f_is_house T.d_is_house ["thing"] (spF 1 (pre1 SzD) (fn1 fun d => .bool (isHouseD d))) := by
  refine okF T.F_is_house sc_is_house fun X cdv A outer s H0 E vs F H ds Q hX hr hl hs ha hp q => ?_
  obtain ⟨d, rfl, hz⟩ := hp
  have hnx := SzD.noEx hz
  obtain ⟨v, rfl, hd⟩ := daAll1 ha
  subst hX
  clear hl
  have q : ∀ v F2 H2, Gr F H F2 H2 → Da F2 (.bool (isHouseD d)) v → Q v H2 := q
  have hu := hr.units
  rcases tup2_cases d with ⟨a, b, rfl⟩ | ⟨ds, rfl, hne⟩ | ⟨hk, _, h0⟩
  · have hna := SzD.noEx hz.1
    have hnb := SzD.noEx hz.2.1
    refine ss_cons (ws_ifD (DT.of_w (dw_or (dt_not (dt_val (de_isi (bb := true) T.m_isinstance T.m_tuple (de_v 0 hd) (kit_tuple _)))) (fun _ => dw_or (dt_c (c_neI (de_lenT T.m_len (de_v 0 hd)) de_int))
      (fun _ => dw_or (dt_not (dt_val (x_are_keys T hr (de_ixT (d := a) (de_v 0 hd) de_int rfl) hz.1)))
      (fun _ => dw_or1 (dt_not (dt_val (de_isi T.m_isinstance T.m_list (de_ixT (d := b) (de_v 0 hd) de_int rfl) (kit_list' _))))))))) hs (fun hb F2 H2 g => ?_) (fun hb F2 H2 g => ?_))
    · refine ss_one (ws_retD de_bool g.fh fun v F3 H3 g3 hv => q v F3 H3 (g.trans g3) ?_)
      rw [house_out hb rfl]; exact hv
    · obtain ⟨hka, rs, rfl⟩ := house_in hb
      have hz2 : rs.length ≤ 100000 ∧ SzAll rs := hz.2.1
      refine ss_nil (ss_one (ws_retD (de_c (c_eqNil hu (de_lcIf (Dx := fun d => d) (xs := rs) [("room", 1)] (lcok sc_is_house (by decide +kernel)) (fun d => !isRoomD d) (fun d => d) (by rw [List.map_id']; exact (di_list (de_ixT (d := .list rs) (de_v 0 (g.da hd)) de_int rfl)).i) (sz100 hz2.1) fun x hx v F' H' g' hv => ?_))) g.fh fun v F3 H3 g3 hv => q v F3 H3 (g.trans g3) ?_))
      · exact gb_name 1 sc_is_house.nd ⟨rfl, rfl, fun _ _ _ _ _ => dt_not (dt_val (x_is_room T hr (de_v 1 hv) (hz2.2.mem hx))), fun _ _ _ _ _ _ => de_v 1 hv⟩
      · rw [house_is hka, ← filter_none]; exact hv
  · refine ss_cons (ws_ifD (b := true) (DT.of_w (dw_or (cc := true) (dt_not (dt_val (de_isi (bb := true) T.m_isinstance T.m_tuple (de_v 0 hd) (kit_tuple _)))) (fun _ => dt_is_w (dw_or (cc := true) (dt_c (c_neI (de_lenT T.m_len (de_v 0 hd)) de_int)) (fun z => (ne2 hne z).elim)) (Bool.or_true _)))) hs (fun hb F2 H2 g => ?_) (fun hb F2 H2 g => nomatch hb))
    refine ss_one (ws_retD de_bool g.fh fun v F3 H3 g3 hv => q v F3 H3 (g.trans g3) ?_)
    rw [house_len hne]; exact hv
  · refine ss_cons (ws_ifD (b := true) (DT.of_w (dw_or (cc := true) (dt_not (dt_val (de_isi T.m_isinstance T.m_tuple (de_v 0 hd) hk))) (fun z => nomatch z))) hs (fun hb F2 H2 g => ?_) (fun hb F2 H2 g => nomatch hb))
    refine ss_one (ws_retD de_bool g.fh fun v F3 H3 g3 hv => q v F3 H3 (g.trans g3) ?_)
    rw [h0]; exact hv
theorem x_is_house {X : Cx} {σ : St} {F H : Hp} {e : Expr} {d : PyData} {p pos : Pos} {k : Nat} (T : Tx X.K X.mg) (hr : Room k X.A) (h : DE X e σ F H d) (hz : SzD d) (hk : 4 ≤ k := by decide) (hg : Gl X "is_house" := by rfl) (l : Pl X e [] pos := by exact ⟨rfl, rfl⟩) :
    DE X (.Call (.Name "is_house" p) [e] [] pos) σ F H (.bool (isHouseD d)) := de_call (ok_is_house T) (hr.mono hk) T.g_is_house T.F_is_house.kp T.b_is_house (dl_cons h dl_nil l.he) rfl ⟨d, rfl, hz⟩ rfl hg (by decide) l
/-- of a house need_house says nothing -/
theorem ok_need_house (T : Tx K mg) : FnOk P w K mg base CX0 5 T.f_need_house T.d_need_house ["thing"] (spF 1 (pre1 fun d => SzD d ∧ isHouseD d = true) (fn1 fun _ => .none)) := by
  refine okF T.F_need_house sc_need_house fun X cdv A outer s H0 E vs F H ds Q hX hr hl hs ha hp q => ?_
  obtain ⟨d, rfl, hz, hh⟩ := hp
  obtain ⟨v, rfl, hd⟩ := daAll1 ha
  subst hX
  have q : ∀ v F2 H2, Gr F H F2 H2 → Da F2 .none v → Q v H2 := q
  refine ss_one (ws_ifD (dt_not (dt_val (x_is_house T hr (de_v 0 hd) hz))) hs (fun hb F2 H2 g => ?_) (fun hb F2 H2 g => ?_))
  · rw [hh] at hb; exact nomatch hb
  · exact ss_nil (q _ F2 H2 g rfl)
end
/-! part draw -/
def spPool (K : PySem.W.Frag) : Sp := fun vs H Q _ => ∃ (a : Addr) (ns : List Int) (k : Nat), vs = [.ref a, .int k] ∧ SqL K H a (ns.map V.int) ∧ k ≤ 1000 ∧ ∀ p H', H p = none → Same H H' → Pool H' p (53 * k) → Q (.ref p) H'
section
variable {P : Program} {w : World} {K : PySem.W.Frag} {mg : Str → Option Value} {base : Heap}
theorem ok_law_pool (T : Tx K mg) : FnOk P w K mg base CX0 1 T.f_law_pool T.d_law_pool ["script", "k"] (spPool K) := by
  refine okW T.F_law_pool sc_law_pool (fun vs H Q E ⟨a, ns, k, h, _⟩ => by rw [h]; rfl) fun cdv A outer s H vs Q E hr h => ?_
  obtain ⟨a, ns, k, rfl, hS, hk, q⟩ := h
  have nd := sc_law_pool.nd
  -- behind the cell's reading
  have rest : ∀ (c : Int) H1, Same H H1 → ∀ D : Ends, D.rt = Q → WSs (cxOf CX0 P w K mg base ["script", "k", "cell"] "_law_pool" (defScope s_law_pool) T.f_law_pool cdv A outer s H E).nox ((defBody s_law_pool).drop 2) D [some (.ref a), some (.int k), some (.int c)] H1 := by
    intro c H1 s1 D hD
    refine ss_one (ws_ret (we_lst (F := H1) (dl_cons (de_v 2 (d := .int c) rfl) (dl_cons (de_intB T.m_int (de_c (c_ge (de_v 2 (d := .int c) rfl) (de_pow de_int de_int ⟨by decide, by decide, by decide⟩)))) (dl_cons (de_mul de_int (de_v 1 (d := .int k) rfl) (.inl ⟨by decide, by decide⟩)) dl_nil))) (Same.refl _) (by show 3 ≤ sizeLine; decide) fun l vs F3 H3 g3 hvs hl => ?_))
    obtain ⟨v1, r1, rfl, e1, hvs⟩ := hvs
    obtain ⟨v2, v3, rfl, e2, e3⟩ := daAll2 hvs
    obtain rfl := (show v1 = .int _ from e1)
    obtain rfl := (show v2 = .int _ from e2)
    obtain rfl := (show v3 = .int _ from e3)
    rw [hD]
    have s3 := s1.trans g3.hh
    refine q l _ (s3.free hl) (s3.trans (same_upd hl)) ⟨_, _, _, upd_same, ?_, by omega, by omega⟩
    by_cases e : (10 : Int) ^ (18 : Int).toNat ≤ c
    · rw [decide_eq_true e]; exact .inr rfl
    · rw [decide_eq_false e]; exact .inl rfl
  refine ss_cons (ws_setD (F := H) 2 nd (d := .int 0) de_int (Same.refl _) fun v F2 H2 g hv => ?_)
  obtain rfl := (show v = .int 0 from hv)
  refine ss_cons (ws_ifD (F := H2) (dt_c (c_lt (de_v 1 (d := .int k) rfl) (de_lenQ T.m_len (ve_v 0) (g.hh.seq hS)))) (Same.refl _) (fun hb F3 H3 g3 => ?_) (fun hb F3 H3 g3 => ?_))
  · have hlt : k < ns.length := by
      have := of_decide_eq_true hb
      omega
    refine ss_one (ws_setD (F := H3) 2 nd (de_ixQ (ve_v 0) (de_v 1 (d := .int k) rfl) ((g.hh.trans g3.hh).seq hS) (Int.natCast_nonneg k) (n := ns[k]) (List.getElem?_eq_getElem hlt)) (Same.refl _) fun v F4 H4 g4 hv => ?_)
    obtain rfl := (show v = .int _ from hv)
    exact rest _ H4 (g.hh.trans (g3.hh.trans g4.hh)) _ rfl
  · exact ss_nil (rest 0 H3 (g.hh.trans g3.hh) _ rfl)
theorem ok_law_draw (T : Tx K mg) : FnOk P w K mg base CX0 1 T.f_law_draw T.d_law_draw ["pool", "many"] spTakeW := by
  refine okW T.F_law_draw sc_law_draw (fun vs H Q E ⟨p, n, m, h, _⟩ => by rw [h]; rfl) fun cdv A outer s H vs Q E hr h => ?_
  obtain ⟨p, n, many, rfl, ⟨c, m, t, hP, hm, ht0, htn⟩, hn, h0, h1, q⟩ := h
  have nd := sc_law_draw.nd
  have hu := hr.units
  have e0 : Da H (.list [.int c, .int m, .int t]) (.ref p) := ⟨p, _, rfl, hP, daAll_cons rfl (daAll_cons rfl (daAll_cons rfl daAll_nil))⟩
  refine ss_cons (ws_ifD (F := H) (dt_c (c_eqI (de_ixL (de_v 0 e0) de_int (d := .int m) rfl) de_int)) (Same.refl _) (fun hb F2 H2 g => ?_) (fun hb F2 H2 g => ?_))
  · -- by its own digits
    refine ss_cons (ws_setD (F := H2) 2 nd (de_mod (de_ixL (de_v 0 (g.daH e0)) de_int (d := .int c) rfl) (de_v 1 (d := .int many) rfl) h0) (Same.refl _) fun v F3 H3 g3 hv => ?_)
    obtain rfl := (show v = .int _ from hv)
    have e3 : Da H3 (.list [.int c, .int m, .int t]) (.ref p) := g3.daH (g.daH e0)
    have s3 : Same H H3 := g.hh.trans g3.hh
    refine ss_cons (ws_asg (DE.go (F := H3) (de_fdivW (de_ixL (de_v 0 e3) de_int (d := .int c) rfl) (de_v 1 (d := .int many) rfl) (divW_of h0 h1)) (Same.refl _) fun v F4 H4 g4 hv => ?_))
    obtain rfl := (show v = .int _ from hv)
    refine wg_sub (F := H4) (ve_v 0) de_int (Same.refl _) ((s3.trans g4.hh) _ _ hP) (j := 0) rfl fun F5 H5 g5 => ?_
    have s5 : Same H H5 := s3.trans (g4.hh.trans g5.hh)
    refine ss_one (ws_ret (VE.go (F := upd H5 p (.lst ([V.int c, .int m, .int t].set 0 (.int (c / many))))) (ve_v 2) (Same.refl _) fun F6 H6 g6 => ?_))
    refine q _ H6 (Int.emod_nonneg _ (by omega)) (Int.emod_lt_of_pos _ h0) (fun b u hb e => g6.hh _ _ (by rw [upd_ne hb]; exact s5 _ _ e)) ⟨c / many, m, t, g6.hh _ _ upd_same, hm, ht0, by omega⟩
  · have s2 : Same H H2 := g.hh
    refine ss_nil ?_
    refine ss_cons (ws_asg (DE.go (F := H2) (de_add (de_ixL (de_v 0 (g.daH e0)) de_int (d := .int t) rfl) de_int) (Same.refl _) fun v F4 H4 g4 hv => ?_))
    obtain rfl := (show v = .int _ from hv)
    refine wg_sub (F := H4) (ve_v 0) de_int (Same.refl _) ((s2.trans g4.hh) _ _ hP) (j := 2) rfl fun F5 H5 g5 => ?_
    have s5 : Same H H5 := s2.trans (g4.hh.trans g5.hh)
    generalize hH6 : upd H5 p (.lst ([V.int c, .int m, .int t].set 2 (.int (t + 1)))) = H6
    have k6 : ∀ b u, b ≠ p → H b = some u → H6 b = some u := fun b u hb e => by rw [← hH6, upd_ne hb]; exact s5 _ _ e
    have P6 : H6 p = some (.lst [.int c, .int m, .int (t + 1)]) := by rw [← hH6, upd_same]; rfl
    have e6 : Da H6 (.list [.int c, .int m, .int (t + 1)]) (.ref p) := ⟨p, _, rfl, P6, daAll_cons rfl (daAll_cons rfl (daAll_cons rfl daAll_nil))⟩
    clear hH6
    refine ss_cons (ws_setD (F := H6) 3 nd (de_mod (de_add (de_mod (de_ixL (de_v 0 e6) de_int (d := .int c) rfl) de_int (by decide)) (de_mul de_int (de_ixL (de_v 0 e6) de_int (d := .int (t + 1)) rfl) (.inl ⟨by decide, by decide⟩))) de_int (by decide)) (Same.refl _) fun v F7 H7 g7 hv => ?_)
    obtain rfl := (show v = .int _ from hv)
    have b1 := Int.emod_nonneg (c % 999999999989 + 810083 * (t + 1)) (show (999999999989 : Int) ≠ 0 by decide)
    have b2 := Int.emod_lt_of_pos (c % 999999999989 + 810083 * (t + 1)) (show (0 : Int) < 999999999989 by decide)
    generalize (c % 999999999989 + 810083 * (t + 1)) % 999999999989 = M at b1 b2 ⊢
    refine ss_cons (ws_setD (F := H7) 3 nd (de_mod (de_mul (de_v 3 (d := .int M) rfl) (de_v 3 (d := .int M) rfl) (.inl ⟨by omega, by omega⟩)) de_int (by decide)) (Same.refl _) fun v F8 H8 g8 hv => ?_)
    obtain rfl := (show v = .int _ from hv)
    have b3 := Int.emod_nonneg (M * M) (show (1000000000039 : Int) ≠ 0 by decide)
    have b4 := Int.emod_lt_of_pos (M * M) (show (0 : Int) < 1000000000039 by decide)
    generalize M * M % 1000000000039 = L at b3 b4 ⊢
    refine ss_cons (ws_setD (F := H8) 3 nd (de_mod (de_mul (de_add (de_v 3 (d := .int L) rfl) de_int) (de_v 3 (d := .int L) rfl) (.inl ⟨by omega, by omega⟩)) de_int (by decide)) (Same.refl _) fun v F9 H9 g9 hv => ?_)
    obtain rfl := (show v = .int _ from hv)
    generalize (L + 390001) * L % 999999999961 = N
    refine ss_one (ws_retD (F := H9) (de_mod (de_fdiv (de_v 3 (d := .int N) rfl) de_int ⟨by decide, by decide⟩) (de_v 1 (d := .int many) rfl) h0) (Same.refl _) fun v F11 H11 g11 hv => ?_)
    obtain rfl := (show v = .int _ from hv)
    have s11 : Same H6 H11 := g7.hh.trans (g8.hh.trans (g9.hh.trans g11.hh))
    exact q _ H11 (Int.emod_nonneg _ (by omega)) (Int.emod_lt_of_pos _ h0) (fun b u hb e => s11 _ _ (k6 b u hb e)) ⟨c, m, t + 1, s11 _ _ P6, hm, by omega, by omega⟩
end
def tt_counted_kinds (m : Nat) : TSA := (seqA (setA 1 (ownA newD))
    (seqA (forA m (iterL (varA 0)) (nameG 2) (putS (opA addA (getA2 (varA 1) (varA 2) (cstA (.int 0))) (cstA (.int 1))) (varA 1) (varA 2)))
    (retA (varA 1))))
def TT_counted_kinds : SpT := bodyT 2 (tt_counted_kinds)
theorem kk_counted_kinds {P : Program} {w : World} {K : PySem.W.Frag} {mg : Str → Option Value} {base : Heap} (T : Tx K mg) : FnOk P w K mg base CX0 1 T.f_counted_kinds T.d_counted_kinds ["kinds"] (spA 1 (TT_counted_kinds)) :=
  okA T.F_counted_kinds sc_counted_kinds fun cdv A outer s H E B hr =>
    (ss_consA (sa_set 1 sc_counted_kinds.nd (ea_own en_dict))
      (ss_consA (sa_for PassesOwn.never rfl (ia_list (ea_v 0)) (gt_name 2 sc_counted_kinds.nd) (fun _ _ => (ss_oneA (sa_put hr.units (ea_op o_add (ea_get2 hr.units (ea_v 1) (ea_v 2) ea_int) ea_int) (ea_v 1) (ea_v 2)))))
      (ss_oneA (sa_ret (ea_v 1)))))
def tt_Opened_init (O : OT) (m : Nat) : TSA := (seqA (setFA O.opened "locks" (frzA (lcN (ioT (iterL (opA ixA (varA 1) (cstA (.int 1))))) (tup2G (nameG 2) (nameG 3)) yesA (callF TT_counted_kinds (consL (varA 2) nilL)) [2, 3])) (varA 0))
    (seqA (setFA O.opened "within" (frzA (lcN (ioT (iterL (opA ixA (varA 1) (cstA (.int 1))))) (tup2G (nameG 2) (nameG 3)) yesA (callF TT_counted_kinds (consL (varA 3) nilL)) [2, 3])) (varA 0))
    (seqA (setFA O.opened "many" (bltA lenA (consL (opA ixA (varA 1) (cstA (.int 1))) nilL)) (varA 0))
    (seqA (setFA O.opened "all_rooms" (opA subA (opA shlA (cstA (.int 1)) (attrA O.opened "many" (varA 0))) (cstA (.int 1))) (varA 0))
    (seqA (setFA O.opened "hands" (dispA (cstA (.int 0)) (callF TT_counted_kinds (consL (opA ixA (varA 1) (cstA (.int 0))) nilL))) (varA 0))
    (seqA (setFA O.opened "goings" (ownA newD) (varA 0))
    (setFA O.opened "ends" (ownA newD) (varA 0))))))))
def TT_Opened_init (O : OT) : SpT := bodyT 2 (tt_Opened_init O)
theorem kk_Opened_init {P : Program} {w : World} {K : PySem.W.Frag} {mg : Str → Option Value} {base : Heap} (T : Tx K mg) : FnOk P w K mg base CX0 2 T.f_Opened_init T.d_Opened_init ["self", "house"] (spA 2 (TT_Opened_init T.O)) :=
  okA T.F_Opened_init sc_Opened_init fun cdv A outer s H E B hr =>
    (ss_consA (sa_setF T.c_Opened T.na_Opened_locks (ea_frz (en_lc [("locks", 2), ("keys", 3)] (lcok sc_Opened_init (by decide +kernel)) (IO.of (ia_list (ea_ix (hu1 hr) (ea_v 1) ea_int))) (fun _ _ _ _ _ => (gt_tup2 rfl (gt_name 2 sc_Opened_init.nd) (gt_name 3 sc_Opened_init.nd))) (fun _ _ _ _ _ _ => (ea_callF (kk_counted_kinds T) (hr.mono (by decide)) T.g_counted_kinds T.F_counted_kinds.kp T.b_counted_kinds (el_cons (ea_v 2) el_nil))))) (ea_v 0))
      (ss_consA (sa_setF T.c_Opened T.na_Opened_within (ea_frz (en_lc [("locks", 2), ("keys", 3)] (lcok sc_Opened_init (by decide +kernel)) (IO.of (ia_list (ea_ix (hu1 hr) (ea_v 1) ea_int))) (fun _ _ _ _ _ => (gt_tup2 rfl (gt_name 2 sc_Opened_init.nd) (gt_name 3 sc_Opened_init.nd))) (fun _ _ _ _ _ _ => (ea_callF (kk_counted_kinds T) (hr.mono (by decide)) T.g_counted_kinds T.F_counted_kinds.kp T.b_counted_kinds (el_cons (ea_v 3) el_nil))))) (ea_v 0))
      (ss_consA (sa_setF T.c_Opened T.na_Opened_many (ea_blt c_len T.m_len (el_cons (ea_ix (hu1 hr) (ea_v 1) ea_int) el_nil)) (ea_v 0))
      (ss_consA (sa_setF T.c_Opened T.na_Opened_all_rooms (ea_op o_sub (ea_op o_shl ea_int (ea_attr T.c_Opened T.na_Opened_many (ea_v 0))) ea_int) (ea_v 0))
      (ss_consA (sa_setF T.c_Opened T.na_Opened_hands (ea_disp ea_int (ea_callF (kk_counted_kinds T) (hr.mono (by decide)) T.g_counted_kinds T.F_counted_kinds.kp T.b_counted_kinds (el_cons (ea_ix (hu1 hr) (ea_v 1) ea_int) el_nil))) (ea_v 0))
      (ss_consA (sa_setF T.c_Opened T.na_Opened_goings (ea_own en_dict) (ea_v 0))
      (ss_oneA (sa_setF T.c_Opened T.na_Opened_ends (ea_own en_dict) (ea_v 0)))))))))
def tt_Opened_hand_at (O : OT) (rec : SpT) (m : Nat) : TSA := (seqA (ifA (opT (inT true) (varA 1) (attrA O.opened "hands" (varA 0))) (seqA (setA 2 (opA subA (bitsA (varA 1)) (cstA (.int 1))))
    (seqA (setA 3 (ownA (bltN dictDN (consL (methF O.opened "hand_at" rec (varA 0) (consL (opA subA (varA 1) (opA shlA (cstA (.int 1)) (varA 2))) nilL)) nilL))))
    (seqA (forPA m (pkI (pkF O.opened "locks" 0) (pkV 2)) (nameG 4) (putS (opA subA (getA2 (varA 3) (varA 4) (cstA (.int 0))) (opA ixA (opA ixA (attrA O.opened "locks" (varA 0)) (varA 2)) (varA 4))) (varA 3) (varA 4)))
    (seqA (forPA m (pkI (pkF O.opened "within" 0) (pkV 2)) (nameG 4) (putS (opA addA (getA2 (varA 3) (varA 4) (cstA (.int 0))) (opA ixA (opA ixA (attrA O.opened "within" (varA 0)) (varA 2)) (varA 4))) (varA 3) (varA 4)))
    (putN (fzA m 3) (attrA O.opened "hands" (varA 0)) (varA 1)))))) nextA)
    (retA (opA ixA (attrA O.opened "hands" (varA 0)) (varA 1))))
def TT_Opened_hand_at (O : OT) : Nat → SpT
  | 0 => neverT
  | n + 1 => bodyT 3 (tt_Opened_hand_at O (TT_Opened_hand_at O n))
theorem kk_Opened_hand_at {P : Program} {w : World} {K : PySem.W.Frag} {mg : Str → Option Value} {base : Heap} (T : Tx K mg) : ∀ n : Nat, FnOk P w K mg base CX0 (1 + n) T.f_Opened_hand_at T.d_Opened_hand_at ["self", "rooms"] (spA 2 (TT_Opened_hand_at T.O n))
  | 0 => fn_never
  | n + 1 => okA T.F_Opened_hand_at sc_Opened_hand_at fun cdv A outer s H E B hr =>
    have ih := kk_Opened_hand_at T n
    (ss_consA (sa_if (et_cmp (o_notIn (hu1 hr)) (ea_v 1) (ea_attr T.c_Opened T.na_Opened_hands (ea_v 0))) (ss_consA (sa_set 2 sc_Opened_hand_at.nd (ea_op o_sub (ea_bits (ea_v 1)) ea_int))
      (ss_consA (sa_set 3 sc_Opened_hand_at.nd (ea_own (en_bty c_dictD T.m_dict (el_cons (ea_methF T.c_Opened T.me_Opened_hand_at (ih) hr T.b_Opened_hand_at (ea_v 0) (el_cons (ea_op o_sub (ea_v 1) (ea_op o_shl ea_int (ea_v 2))) el_nil)) el_nil))))
      (ss_consA (sa_forP (pk_i (pk_f T.c_Opened T.na_Opened_locks 0) (pk_v 2)) PassesOwn.never rfl (gt_name 4 sc_Opened_hand_at.nd) (fun _ _ => (ss_oneA (sa_put hr.units (ea_op o_sub (ea_get2 hr.units (ea_v 3) (ea_v 4) ea_int) (ea_ix (hu1 hr) (ea_ix (hu1 hr) (ea_attr T.c_Opened T.na_Opened_locks (ea_v 0)) (ea_v 2)) (ea_v 4))) (ea_v 3) (ea_v 4)))))
      (ss_consA (sa_forP (pk_i (pk_f T.c_Opened T.na_Opened_within 0) (pk_v 2)) PassesOwn.never rfl (gt_name 4 sc_Opened_hand_at.nd) (fun _ _ => (ss_oneA (sa_put hr.units (ea_op o_add (ea_get2 hr.units (ea_v 3) (ea_v 4) ea_int) (ea_ix (hu1 hr) (ea_ix (hu1 hr) (ea_attr T.c_Opened T.na_Opened_within (ea_v 0)) (ea_v 2)) (ea_v 4))) (ea_v 3) (ea_v 4)))))
      (ss_oneA (sa_putN hr.units (ea_fz 3) (ea_attr T.c_Opened T.na_Opened_hands (ea_v 0)) (ea_v 1))))))) ss_nilA)
      (ss_oneA (sa_ret (ea_ix (hu1 hr) (ea_attr T.c_Opened T.na_Opened_hands (ea_v 0)) (ea_v 1)))))
def tt_Opened_next_at (O : OT) (m : Nat) : TSA := (seqA (setA 2 (methF O.opened "hand_at" (TT_Opened_hand_at O 14) (varA 0) (consL (varA 1) nilL)))
    (seqA (setA 3 (ownA (lstN nilL)))
    (seqA (forA m (iterR1 (fun s Q => (attrA O.opened "many" (varA 0)) s fun x s1 => onSome x.int? fun j => -(2 ^ 62) ≤ j ∧ Q x s1)) (nameG 4) (ifA (opT (eqT false) (opA bandA (opA shrA (varA 1) (varA 4)) (cstA (.int 1))) (cstA (.int 0))) (seqA (setA 5 (frzA (lcN (iterP (pkI (pkF O.opened "locks" 0) (pkV 4))) (nameG 6) (opT ltT (getA2 (varA 2) (varA 6) (cstA (.int 0))) (opA ixA (opA ixA (attrA O.opened "locks" (varA 0)) (varA 4)) (varA 6))) (varA 6) [6])))
    (ifA (nilT false (varA 5)) (dropA (mtL appendA (varA 3) (consL (varA 4) nilL))) nextA)) nextA))
    (retA (varA 3)))))
def TT_Opened_next_at (O : OT) : SpT := bodyT 5 (tt_Opened_next_at O)
theorem kk_Opened_next_at {P : Program} {w : World} {K : PySem.W.Frag} {mg : Str → Option Value} {base : Heap} (T : Tx K mg) : FnOk P w K mg base CX0 16 T.f_Opened_next_at T.d_Opened_next_at ["self", "rooms"] (spA 2 (TT_Opened_next_at T.O)) :=
  okA T.F_Opened_next_at sc_Opened_next_at fun cdv A outer s H E B hr =>
    (ss_consA (sa_set 2 sc_Opened_next_at.nd (ea_methF T.c_Opened T.me_Opened_hand_at (kk_Opened_hand_at T 14) (hr.mono (by decide)) T.b_Opened_hand_at (ea_v 0) (el_cons (ea_v 1) el_nil)))
      (ss_consA (sa_set 3 sc_Opened_next_at.nd (ea_own (en_lst el_nil)))
      (ss_consA (sa_for PassesOwn.never rfl (ia_range1 T.m_range (ea_attr T.c_Opened T.na_Opened_many (ea_v 0))) (gt_name 4 sc_Opened_next_at.nd) (fun _ _ => (ss_oneA (sa_if (et_cmp (o_eq hr.units) (ea_op o_band (ea_op o_shr (ea_v 1) (ea_v 4)) ea_int) ea_int) (ss_consA (sa_setLcIfPF 5 (pk_i (pk_f T.c_Opened T.na_Opened_locks 0) (pk_v 4)) [("kind", 6)] (lcok sc_Opened_next_at (by decide +kernel)) (fun _ _ _ _ _ => (gt_name 6 sc_Opened_next_at.nd)) (fun _ _ _ _ _ _ => (et_cmp o_lt (ea_get2 hr.units (ea_v 2) (ea_v 6) ea_int) (ea_ix (hu1 hr) (ea_ix (hu1 hr) (ea_attr T.c_Opened T.na_Opened_locks (ea_v 0)) (ea_v 4)) (ea_v 6)))) (fun _ _ _ _ _ _ => (ea_v 6)))
      (ss_oneA (sa_if (et_eqNil hr.units (ea_v 5)) (ss_oneA (sa_expr (ea_mtL PySem.F.slot_list_append PySem.F.type_list_append m_append (ea_v 3) (el_cons (ea_v 4) el_nil)))) ss_nilA))) ss_nilA))))
      (ss_oneA (sa_ret (ea_v 3))))))
def tt_need_few (m : Nat) : TSA := (seqA (dropA (callF (tF 1 (pre1 fun d => SzD d ∧ isHouseD d = true) (fn1 fun _ => .none)) (consL (varA 0) nilL)))
    (ifA (opT gtT (bltA lenA (consL (opA ixA (varA 0) (cstA (.int 1))) nilL)) (cstA (.int 12))) neverA nextA))
def TT_need_few : SpT := bodyT 0 (tt_need_few)
theorem kk_need_few {P : Program} {w : World} {K : PySem.W.Frag} {mg : Str → Option Value} {base : Heap} (T : Tx K mg) : FnOk P w K mg base CX0 6 T.f_need_few T.d_need_few ["house"] (spA 1 (TT_need_few)) :=
  okA T.F_need_few sc_need_few fun cdv A outer s H E B hr =>
    (ss_consA (sa_expr (ea_callF (okF_A (ok_need_house T)) (hr.mono (by decide)) T.g_need_house T.F_need_house.kp T.b_need_house (el_cons (ea_v 0) el_nil)))
      (ss_oneA (sa_if (et_cmp o_gt (ea_blt c_len T.m_len (el_cons (ea_ix (hu1 hr) (ea_v 0) ea_int) el_nil)) (ea_globI T.c_MOST_ROOMS)) (ss_oneA sa_never) ss_nilA)))
def tt_rooms_of (m : Nat) : TSA := (retA (ownA (lcN (ioT (iterR1 (fun s Q => (bitsA (varA 0)) s fun x s1 => onSome x.int? fun j => -(2 ^ 62) ≤ j ∧ Q x s1))) (nameG 1) (opT (eqT false) (opA bandA (opA shrA (varA 0) (varA 1)) (cstA (.int 1))) (cstA (.int 1))) (varA 1) [1])))
def TT_rooms_of : SpT := bodyT 1 (tt_rooms_of)
theorem kk_rooms_of {P : Program} {w : World} {K : PySem.W.Frag} {mg : Str → Option Value} {base : Heap} (T : Tx K mg) : FnOk P w K mg base CX0 1 T.f_rooms_of T.d_rooms_of ["number"] (spA 1 (TT_rooms_of)) :=
  okA T.F_rooms_of sc_rooms_of fun cdv A outer s H E B hr =>
    (ss_oneA (sa_ret (ea_own (en_lcIf [("k", 1)] (lcok sc_rooms_of (by decide +kernel)) (IO.of (ia_range1 T.m_range (ea_bits (ea_v 0)))) (fun _ _ _ _ _ => (gt_name 1 sc_rooms_of.nd)) (fun _ _ _ _ _ _ => (et_cmp (o_eq hr.units) (ea_op o_band (ea_op o_shr (ea_v 0) (ea_v 1)) ea_int) ea_int)) (fun _ _ _ _ _ _ => (ea_v 1))))))
def tt_sets_that_come (O : OT) (m : Nat) : TSA := (seqA (setA 1 (makeO O.opened (TT_Opened_init O) (consL (varA 0) nilL)))
    (seqA (setA 2 (dispA (cstA (.int 0)) (frzA (lstN nilL))))
    (seqA (setA 3 (ownA (lstN (consL (cstA (.int 0)) nilL))))
    (seqA (whileA m (nilT true (varA 3)) (seqA (setA 4 (ownA (lstN nilL)))
    (seqA (forA m (iterL (fzA m 3)) (nameG 5) (forA m (iterL (methF O.opened "next_at" (TT_Opened_next_at O) (varA 1) (consL (varA 5) nilL))) (nameG 6) (seqA (setA 7 (opA addA (varA 5) (opA shlA (cstA (.int 1)) (varA 6))))
    (seqA (setA 8 (opA addA (opA ixA (varA 2) (varA 5)) (frzA (lstN (consL (varA 6) nilL)))))
    (ifA (opT (inT true) (varA 7) (varA 2)) (seqA (dropA (mtL appendA (varA 4) (consL (varA 7) nilL)))
    (putS (varA 8) (varA 2) (varA 7))) (ifA (opT ltDT (varA 8) (opA ixA (varA 2) (varA 7))) (putS (varA 8) (varA 2) (varA 7)) nextA))))))
    (setA 3 (varA 4)))))
    (retA (varA 2))))))
def TT_sets_that_come (O : OT) : SpT := bodyT 8 (tt_sets_that_come O)
theorem kk_sets_that_come {P : Program} {w : World} {K : PySem.W.Frag} {mg : Str → Option Value} {base : Heap} (T : Tx K mg) : FnOk P w K mg base CX0 17 T.f_sets_that_come T.d_sets_that_come ["house"] (spA 1 (TT_sets_that_come T.O)) :=
  okA T.F_sets_that_come sc_sets_that_come fun cdv A outer s H E B hr =>
    (ss_consA (sa_set 1 sc_sets_that_come.nd (ea_make T.mk_Opened (kk_Opened_init T) (hr.mono (by decide)) T.g_Opened T.b_Opened_init (el_cons (ea_v 0) el_nil)))
      (ss_consA (sa_set 2 sc_sets_that_come.nd (ea_disp ea_int (ea_frz (en_lst el_nil))))
      (ss_consA (sa_set 3 sc_sets_that_come.nd (ea_own (en_lst (el_cons ea_int el_nil))))
      (ss_consA (sa_while PassesOwn.never (et_neNil hr.units (ea_v 3)) (ss_consA (sa_set 4 sc_sets_that_come.nd (ea_own (en_lst el_nil)))
      (ss_consA (sa_for PassesOwn.never rfl (ia_list (ea_fz 3)) (gt_name 5 sc_sets_that_come.nd) (fun _ _ => (ss_oneA (sa_for PassesOwn.never rfl (ia_list (ea_methF T.c_Opened T.me_Opened_next_at (kk_Opened_next_at T) (hr.mono (by decide)) T.b_Opened_next_at (ea_v 1) (el_cons (ea_v 5) el_nil))) (gt_name 6 sc_sets_that_come.nd) (fun _ _ => (ss_consA (sa_set 7 sc_sets_that_come.nd (ea_op o_add (ea_v 5) (ea_op o_shl ea_int (ea_v 6))))
      (ss_consA (sa_set 8 sc_sets_that_come.nd (ea_op o_add (ea_ix (hu1 hr) (ea_v 2) (ea_v 5)) (ea_frz (en_lst (el_cons (ea_v 6) el_nil)))))
      (ss_oneA (sa_if (et_cmp (o_notIn (hu1 hr)) (ea_v 7) (ea_v 2)) (ss_consA (sa_expr (ea_mtL PySem.F.slot_list_append PySem.F.type_list_append m_append (ea_v 4) (el_cons (ea_v 7) el_nil)))
      (ss_oneA (sa_put hr.units (ea_v 8) (ea_v 2) (ea_v 7)))) (ss_oneA (sa_if (et_cmp (o_ltD hr.units) (ea_v 8) (ea_ix (hu1 hr) (ea_v 2) (ea_v 7))) (ss_oneA (sa_put hr.units (ea_v 8) (ea_v 2) (ea_v 7))) ss_nilA)))))))))))
      (ss_oneA (sa_set 3 sc_sets_that_come.nd (ea_v 4))))))
      (ss_oneA (sa_ret (ea_v 2)))))))
def tt_sets_that_come_t (O : OT) (m : Nat) : TSA := (seqA (setA 1 (makeO O.opened (TT_Opened_init O) (consL (varA 0) nilL)))
    (seqA (setA 2 (dispIO (cstA (.int 0)) (ownA (lstN nilL))))
    (seqA (setA 3 (ownA (lstN (consL (cstA (.int 0)) nilL))))
    (seqA (whileA m (nilT true (varA 3)) (seqA (setA 4 (ownA (lstN nilL)))
    (seqA (forA m (iterL (fzA m 3)) (nameG 5) (forA m (iterL (methF O.opened "next_at" (TT_Opened_next_at O) (varA 1) (consL (varA 5) nilL))) (nameG 6) (seqA (setA 7 (opA addA (varA 5) (opA shlA (cstA (.int 1)) (varA 6))))
    (seqA (setA 8 (ownA (opN catN (opA ixA (varA 2) (varA 5)) (frzA (lstN (consL (varA 6) nilL))))))
    (ifA (opT (inT true) (varA 7) (varA 2)) (seqA (dropA (mtL appendA (varA 4) (consL (varA 7) nilL)))
    (putIO (varA 8) (varA 2) (varA 7))) (ifA (opT ltDT (varA 8) (opA ixA (varA 2) (varA 7))) (putIO (varA 8) (varA 2) (varA 7)) nextA))))))
    (setA 3 (varA 4)))))
    (retA (varA 2))))))
def TT_sets_that_come_t (O : OT) : SpT := bodyT 8 (tt_sets_that_come_t O)
theorem kk_sets_that_come_t {P : Program} {w : World} {K : PySem.W.Frag} {mg : Str → Option Value} {base : Heap} (T : Tx K mg) : FnOk P w K mg base CX0 17 T.f_sets_that_come T.d_sets_that_come ["house"] (spA 1 (TT_sets_that_come_t T.O)) :=
  okA T.F_sets_that_come sc_sets_that_come fun cdv A outer s H E B hr =>
    (ss_consA (sa_set 1 sc_sets_that_come.nd (ea_make T.mk_Opened (kk_Opened_init T) (hr.mono (by decide)) T.g_Opened T.b_Opened_init (el_cons (ea_v 0) el_nil)))
      (ss_consA (sa_set 2 sc_sets_that_come.nd (ea_dispIO ea_int (ea_own (en_lst el_nil))))
      (ss_consA (sa_set 3 sc_sets_that_come.nd (ea_own (en_lst (el_cons ea_int el_nil))))
      (ss_consA (sa_while PassesOwn.never (et_neNil hr.units (ea_v 3)) (ss_consA (sa_set 4 sc_sets_that_come.nd (ea_own (en_lst el_nil)))
      (ss_consA (sa_for PassesOwn.never rfl (ia_list (ea_fz 3)) (gt_name 5 sc_sets_that_come.nd) (fun _ _ => (ss_oneA (sa_for PassesOwn.never rfl (ia_list (ea_methF T.c_Opened T.me_Opened_next_at (kk_Opened_next_at T) (hr.mono (by decide)) T.b_Opened_next_at (ea_v 1) (el_cons (ea_v 5) el_nil))) (gt_name 6 sc_sets_that_come.nd) (fun _ _ => (ss_consA (sa_set 7 sc_sets_that_come.nd (ea_op o_add (ea_v 5) (ea_op o_shl ea_int (ea_v 6))))
      (ss_consA (sa_set 8 sc_sets_that_come.nd (ea_own (en_op o_cat (ea_ix (hu1 hr) (ea_v 2) (ea_v 5)) (ea_frz (en_lst (el_cons (ea_v 6) el_nil))))))
      (ss_oneA (sa_if (et_cmp (o_notIn (hu1 hr)) (ea_v 7) (ea_v 2)) (ss_consA (sa_expr (ea_mtL PySem.F.slot_list_append PySem.F.type_list_append m_append (ea_v 4) (el_cons (ea_v 7) el_nil)))
      (ss_oneA (sa_putIO hr.units (ea_v 8) (ea_v 2) (ea_v 7)))) (ss_oneA (sa_if (et_cmp (o_ltD hr.units) (ea_v 8) (ea_ix (hu1 hr) (ea_v 2) (ea_v 7))) (ss_oneA (sa_putIO hr.units (ea_v 8) (ea_v 2) (ea_v 7))) ss_nilA)))))))))))
      (ss_oneA (sa_set 3 sc_sets_that_come.nd (ea_v 4))))))
      (ss_oneA (sa_ret (ea_v 2)))))))
def tt_most_rooms_t (O : OT) (m : Nat) : TSA := (seqA (dropA (callF TT_need_few (consL (varA 0) nilL)))
    (seqA (setA 1 (callO (TT_sets_that_come_t O) (consL (varA 0) nilL)))
    (freshA 1 (seqA (setA 2 (bltA (bestDA PySem.W.maxD) (consL (frzA (lcN (iterD 1) (nameG 3) yesA (bltA lenA (consL (opA ixA (varA 1) (varA 3)) nilL)) [3])) nilL)))
    (retA (tupA (consL (varA 2) (consL (bltA (bestDA PySem.W.minD) (consL (frzA (lcN (iterD 1) (nameG 3) (opT (eqT false) (bltA lenA (consL (opA ixA (varA 1) (varA 3)) nilL)) (varA 2)) (opA ixA (varA 1) (varA 3)) [3])) nilL)) nilL))))))))
def TT_most_rooms_t (O : OT) : SpT := bodyT1 3 (tt_most_rooms_t O)
theorem kk_most_rooms_t {P : Program} {w : World} {K : PySem.W.Frag} {mg : Str → Option Value} {base : Heap} (T : Tx K mg) : FnOk P w K mg base CX0 18 T.f_most_rooms T.d_most_rooms ["house"] (spA 1 (TT_most_rooms_t T.O)) :=
  okA1 T.F_most_rooms sc_most_rooms fun cdv A outer s H E B hS hr =>
    (ss_consA (sa_expr (ea_callF (kk_need_few T) (hr.mono (by decide)) T.g_need_few T.F_need_few.kp T.b_need_few (el_cons (ea_v 0) el_nil)))
      (ss_consA (sa_set 1 sc_most_rooms.nd (ea_callO (kk_sets_that_come_t T) (hr.mono (by decide)) T.g_sets_that_come T.F_sets_that_come.kp T.b_sets_that_come (el_cons (ea_v 0) el_nil)))
      (ss_fresh 1 hS fun B => (ss_consA (sa_set 2 sc_most_rooms.nd (ea_blt (c_maxD rfl hr.units) T.m_max (el_cons (ea_frz (en_lcD 1 [("rooms", 3)] (lcok sc_most_rooms (by decide +kernel)) (fun _ _ _ _ _ => (gt_name 3 sc_most_rooms.nd)) (fun _ _ _ _ _ _ => (ea_blt c_len T.m_len (el_cons (ea_ix (hu1 hr) (ea_v 1) (ea_v 3)) el_nil))))) el_nil)))
      (ss_oneA (sa_ret (ea_tup (el_cons (ea_v 2) (el_cons (ea_blt (c_minD rfl hr.units) T.m_min (el_cons (ea_frz (en_lcIfD 1 [("rooms", 3)] (lcok sc_most_rooms (by decide +kernel)) (fun _ _ _ _ _ => (gt_name 3 sc_most_rooms.nd)) (fun _ _ _ _ _ _ => (et_cmp (o_eq hr.units) (ea_blt c_len T.m_len (el_cons (ea_ix (hu1 hr) (ea_v 1) (ea_v 3)) el_nil)) (ea_v 2))) (fun _ _ _ _ _ _ => (ea_ix (hu1 hr) (ea_v 1) (ea_v 3))))) el_nil)) el_nil)))))))))
def tt_stuck_sets_t (O : OT) (m : Nat) : TSA := (seqA (dropA (callF TT_need_few (consL (varA 0) nilL)))
    (seqA (setA 1 (makeO O.opened (TT_Opened_init O) (consL (varA 0) nilL)))
    (retA (bltA sortTA (consL (lcT (iterKC m (callO (TT_sets_that_come O) (consL (varA 0) nilL))) (nameG 2) (nilT false (methF O.opened "next_at" (TT_Opened_next_at O) (varA 1) (consL (varA 2) nilL))) (callO TT_rooms_of (consL (varA 2) nilL)) [2]) nilL)))))
def TT_stuck_sets_t (O : OT) : SpT := bodyT 2 (tt_stuck_sets_t O)
theorem kk_stuck_sets_t {P : Program} {w : World} {K : PySem.W.Frag} {mg : Str → Option Value} {base : Heap} (T : Tx K mg) : FnOk P w K mg base CX0 18 T.f_stuck_sets T.d_stuck_sets ["house"] (spA 1 (TT_stuck_sets_t T.O)) :=
  okA T.F_stuck_sets sc_stuck_sets fun cdv A outer s H E B hr =>
    (ss_consA (sa_expr (ea_callF (kk_need_few T) (hr.mono (by decide)) T.g_need_few T.F_need_few.kp T.b_need_few (el_cons (ea_v 0) el_nil)))
      (ss_consA (sa_set 1 sc_stuck_sets.nd (ea_make T.mk_Opened (kk_Opened_init T) (hr.mono (by decide)) T.g_Opened T.b_Opened_init (el_cons (ea_v 0) el_nil)))
      (ss_oneA (sa_ret (ea_blt (c_sortT hr.units) T.m_sorted (el_cons (ea_lcTIf [("rooms", 2)] (lcok sc_stuck_sets (by decide +kernel)) (io_keysC (ea_callO (kk_sets_that_come T) (hr.mono (by decide)) T.g_sets_that_come T.F_sets_that_come.kp T.b_sets_that_come (el_cons (ea_v 0) el_nil))) (fun _ _ _ _ _ => (gt_name 2 sc_stuck_sets.nd)) (fun _ _ _ _ _ _ => (et_eqNil hr.units (ea_methF T.c_Opened T.me_Opened_next_at (kk_Opened_next_at T) (hr.mono (by decide)) T.b_Opened_next_at (ea_v 1) (el_cons (ea_v 2) el_nil)))) (fun _ _ _ _ _ _ => (ea_callO (kk_rooms_of T) (hr.mono (by decide)) T.g_rooms_of T.F_rooms_of.kp T.b_rooms_of (el_cons (ea_v 2) el_nil)))) el_nil))))))
def tt_need_worths (m : Nat) : TSA := (seqA (dropA (callF TT_need_few (consL (varA 0) nilL)))
    (seqA (ifA (orA (notA (valA (isiT "list" (varA 1)))) (opT (eqT true) (bltA lenA (consL (varA 1) nilL)) (bltA lenA (consL (opA ixA (varA 0) (cstA (.int 1))) nilL)))) neverA nextA)
    (forA m (iterL (varA 1)) (nameG 2) (ifA (orA (notA (valA (isiT "int" (varA 2)))) (orA (valA (isiT "bool" (varA 2))) (opT ltT (varA 2) (cstA (.int 0))))) neverA nextA))))
def TT_need_worths : SpT := bodyT 1 (tt_need_worths)
theorem kk_need_worths {P : Program} {w : World} {K : PySem.W.Frag} {mg : Str → Option Value} {base : Heap} (T : Tx K mg) : FnOk P w K mg base CX0 7 T.f_need_worths T.d_need_worths ["house", "worths"] (spA 2 (TT_need_worths)) :=
  okA T.F_need_worths sc_need_worths fun cdv A outer s H E B hr =>
    (ss_consA (sa_expr (ea_callF (kk_need_few T) (hr.mono (by decide)) T.g_need_few T.F_need_few.kp T.b_need_few (el_cons (ea_v 0) el_nil)))
      (ss_consA (sa_if (ET.of_w (ew_or (et_not (et_val (ea_isi (tn := "list") T.m_isinstance T.m_list (ea_v 1)))) (ew_or1 (et_cmp (o_ne hr.units) (ea_blt c_len T.m_len (el_cons (ea_v 1) el_nil)) (ea_blt c_len T.m_len (el_cons (ea_ix (hu1 hr) (ea_v 0) ea_int) el_nil)))))) (ss_oneA sa_never) ss_nilA)
      (ss_oneA (sa_for PassesOwn.never rfl (ia_list (ea_v 1)) (gt_name 2 sc_need_worths.nd) (fun _ _ => (ss_oneA (sa_if (ET.of_w (ew_or (et_not (et_val (ea_isi (tn := "int") T.m_isinstance T.m_int (ea_v 2)))) (ew_or (et_val (ea_isi (tn := "bool") T.m_isinstance T.m_bool (ea_v 2))) (ew_or1 (et_cmp o_lt (ea_v 2) ea_int))))) (ss_oneA sa_never) ss_nilA)))))))
def tt_worth_of (m : Nat) : TSA := (retA (bltA sumA (consL (frzA (lcN (iterO (varA 0)) (nameG 2) yesA (opA ixA (varA 1) (varA 2)) [2])) nilL)))
def TT_worth_of : SpT := bodyT 1 (tt_worth_of)
theorem kk_worth_of {P : Program} {w : World} {K : PySem.W.Frag} {mg : Str → Option Value} {base : Heap} (T : Tx K mg) : FnOk P w K mg base CX0 1 T.f_worth_of T.d_worth_of ["rooms", "worths"] (spA 2 (TT_worth_of)) :=
  okA T.F_worth_of sc_worth_of fun cdv A outer s H E B hr =>
    (ss_oneA (sa_ret (ea_blt (c_sum rfl) T.m_sum (el_cons (ea_frz (en_lc [("k", 2)] (lcok sc_worth_of (by decide +kernel)) (io_list (ea_v 0)) (fun _ _ _ _ _ => (gt_name 2 sc_worth_of.nd)) (fun _ _ _ _ _ _ => (ea_ix (hu1 hr) (ea_v 1) (ea_v 2))))) el_nil))))
def tt_most_worth_t (O : OT) (m : Nat) : TSA := (seqA (dropA (callF TT_need_worths (consL (varA 0) (consL (varA 1) nilL))))
    (seqA (setA 2 (callO (TT_sets_that_come_t O) (consL (varA 0) nilL)))
    (freshW 2 1 (seqA (setA 3 (bltA (bestDA PySem.W.maxD) (consL (frzA (lcN (iterD 2) (nameG 4) yesA (callF TT_worth_of (consL (callF TT_rooms_of (consL (varA 4) nilL)) (consL (varA 1) nilL))) [4])) nilL)))
    (seqA (setA 5 (frzA (lcN (iterD 2) (nameG 4) (opT (eqT false) (callF TT_worth_of (consL (callF TT_rooms_of (consL (varA 4) nilL)) (consL (varA 1) nilL))) (varA 3)) (opA ixA (varA 2) (varA 4)) [4])))
    (seqA (setA 6 (bltA (bestDA PySem.W.minD) (consL (frzA (lcN (iterO (varA 5)) (nameG 7) yesA (bltA lenA (consL (varA 7) nilL)) [7])) nilL)))
    (retA (tupA (consL (varA 3) (consL (bltA (bestDA PySem.W.minD) (consL (frzA (lcN (iterO (varA 5)) (nameG 7) (opT (eqT false) (bltA lenA (consL (varA 7) nilL)) (varA 6)) (varA 7) [7])) nilL)) nilL))))))))))
def TT_most_worth_t (O : OT) : SpT := bodyT1 6 (tt_most_worth_t O)
theorem kk_most_worth_t {P : Program} {w : World} {K : PySem.W.Frag} {mg : Str → Option Value} {base : Heap} (T : Tx K mg) : FnOk P w K mg base CX0 18 T.f_most_worth T.d_most_worth ["house", "worths"] (spA 2 (TT_most_worth_t T.O)) :=
  okA1 T.F_most_worth sc_most_worth fun cdv A outer s H E B hS hr =>
    (ss_consA (sa_expr (ea_callF (kk_need_worths T) (hr.mono (by decide)) T.g_need_worths T.F_need_worths.kp T.b_need_worths (el_cons (ea_v 0) (el_cons (ea_v 1) el_nil))))
      (ss_consA (sa_set 2 sc_most_worth.nd (ea_callO (kk_sets_that_come_t T) (hr.mono (by decide)) T.g_sets_that_come T.F_sets_that_come.kp T.b_sets_that_come (el_cons (ea_v 0) el_nil)))
      (ss_freshW 2 1 (by decide) hS fun B => (ss_consA (sa_set 3 sc_most_worth.nd (ea_blt (c_maxD rfl hr.units) T.m_max (el_cons (ea_frz (en_lcD 2 [("rooms", 4)] (lcok sc_most_worth (by decide +kernel)) (fun _ _ _ _ _ => (gt_name 4 sc_most_worth.nd)) (fun _ _ _ _ _ _ => (ea_callF (kk_worth_of T) (hr.mono (by decide)) T.g_worth_of T.F_worth_of.kp T.b_worth_of (el_cons (ea_callF (kk_rooms_of T) (hr.mono (by decide)) T.g_rooms_of T.F_rooms_of.kp T.b_rooms_of (el_cons (ea_v 4) el_nil)) (el_cons (ea_v 1) el_nil)))))) el_nil)))
      (ss_consA (sa_setLcIfDF 5 2 [("rooms", 4)] (lcok sc_most_worth (by decide +kernel)) (fun _ _ _ _ _ => (gt_name 4 sc_most_worth.nd)) (fun _ _ _ _ _ _ => (et_cmp (o_eq hr.units) (ea_callF (kk_worth_of T) (hr.mono (by decide)) T.g_worth_of T.F_worth_of.kp T.b_worth_of (el_cons (ea_callF (kk_rooms_of T) (hr.mono (by decide)) T.g_rooms_of T.F_rooms_of.kp T.b_rooms_of (el_cons (ea_v 4) el_nil)) (el_cons (ea_v 1) el_nil))) (ea_v 3))) (fun _ _ _ _ _ _ => (ea_ix (hu1 hr) (ea_v 2) (ea_v 4))))
      (ss_consA (sa_set 6 sc_most_worth.nd (ea_blt (c_minD rfl hr.units) T.m_min (el_cons (ea_frz (en_lc [("order", 7)] (lcok sc_most_worth (by decide +kernel)) (io_list (ea_v 5)) (fun _ _ _ _ _ => (gt_name 7 sc_most_worth.nd)) (fun _ _ _ _ _ _ => (ea_blt c_len T.m_len (el_cons (ea_v 7) el_nil))))) el_nil)))
      (ss_oneA (sa_ret (ea_tup (el_cons (ea_v 3) (el_cons (ea_blt (c_minD rfl hr.units) T.m_min (el_cons (ea_frz (en_lcIf [("order", 7)] (lcok sc_most_worth (by decide +kernel)) (io_list (ea_v 5)) (fun _ _ _ _ _ => (gt_name 7 sc_most_worth.nd)) (fun _ _ _ _ _ _ => (et_cmp (o_eq hr.units) (ea_blt c_len T.m_len (el_cons (ea_v 7) el_nil)) (ea_v 6))) (fun _ _ _ _ _ _ => (ea_v 7)))) el_nil)) el_nil)))))))))))
def tt_law_kinds (m : Nat) : TSA := (retA (ownA (lcN (ioT (iterR1 (fun s Q => (varA 1) s fun x s1 => onSome x.int? fun j => -(2 ^ 62) ≤ j ∧ Q x s1))) (nameG 3) yesA (opA ixA (varA 2) (callF tTakeW (consL (varA 0) (consL (bltA lenA (consL (varA 2) nilL)) nilL)))) [3])))
def TT_law_kinds : SpT := bodyT 1 (tt_law_kinds)
theorem kk_law_kinds {P : Program} {w : World} {K : PySem.W.Frag} {mg : Str → Option Value} {base : Heap} (T : Tx K mg) : FnOk P w K mg base CX0 2 T.f_law_kinds T.d_law_kinds ["pool", "many", "kinds"] (spA 3 (TT_law_kinds)) :=
  okA T.F_law_kinds sc_law_kinds fun cdv A outer s H E B hr =>
    (ss_oneA (sa_ret (ea_own (en_lc [("k", 3)] (lcok sc_law_kinds (by decide +kernel)) (IO.of (ia_range1 T.m_range (ea_v 1))) (fun _ _ _ _ _ => (gt_name 3 sc_law_kinds.nd)) (fun _ _ _ _ _ _ => (ea_ix (hu1 hr) (ea_v 2) (ea_callF (okTakeW_A (ok_law_draw T)) (hr.mono (by decide)) T.g_law_draw T.F_law_draw.kp T.b_law_draw (el_cons (ea_v 0) (el_cons (ea_blt c_len T.m_len (el_cons (ea_v 2) el_nil)) el_nil)))))))))
def tt_law_words (m : Nat) : TSA := (seqA (setA 1 (ownA (lstN nilL)))
    (seqA (forA m (iterR1 (fun s Q => (opA addA (cstA (.int 5)) (callF tTakeW (consL (varA 0) (consL (cstA (.int 12)) nilL)))) s fun x s1 => onSome x.int? fun j => -(2 ^ 62) ≤ j ∧ Q x s1)) (nameG 2) (seqA (setA 3 (cstA (.str "")))
    (seqA (forA m (iterR1 (fun s Q => (opA addA (cstA (.int 1)) (callF tTakeW (consL (varA 0) (consL (cstA (.int 4)) nilL)))) s fun x s1 => onSome x.int? fun j => -(2 ^ 62) ≤ j ∧ Q x s1)) (nameG 4) (setA 3 (opA addA (varA 3) (opA ixA (cstA (.str "abcdefghijklmnopqrstuvwxyz")) (callF tTakeW (consL (varA 0) (consL (cstA (.int 26)) nilL)))))))
    (ifA (opT (inT true) (varA 3) (varA 1)) (dropA (mtL appendA (varA 1) (consL (varA 3) nilL))) nextA))))
    (retA (varA 1))))
def TT_law_words : SpT := bodyT 4 (tt_law_words)
theorem kk_law_words {P : Program} {w : World} {K : PySem.W.Frag} {mg : Str → Option Value} {base : Heap} (T : Tx K mg) : FnOk P w K mg base CX0 2 T.f_law_words T.d_law_words ["pool"] (spA 1 (TT_law_words)) :=
  okA T.F_law_words sc_law_words fun cdv A outer s H E B hr =>
    (ss_consA (sa_set 1 sc_law_words.nd (ea_own (en_lst el_nil)))
      (ss_consA (sa_for PassesOwn.never rfl (ia_range1 T.m_range (ea_op o_add ea_int (ea_callF (okTakeW_A (ok_law_draw T)) (hr.mono (by decide)) T.g_law_draw T.F_law_draw.kp T.b_law_draw (el_cons (ea_v 0) (el_cons ea_int el_nil))))) (gt_name 2 sc_law_words.nd) (fun _ _ => (ss_consA (sa_set 3 sc_law_words.nd ea_str)
      (ss_consA (sa_for PassesOwn.never rfl (ia_range1 T.m_range (ea_op o_add ea_int (ea_callF (okTakeW_A (ok_law_draw T)) (hr.mono (by decide)) T.g_law_draw T.F_law_draw.kp T.b_law_draw (el_cons (ea_v 0) (el_cons ea_int el_nil))))) (gt_name 4 sc_law_words.nd) (fun _ _ => (ss_oneA (sa_set 3 sc_law_words.nd (ea_op o_add (ea_v 3) (ea_ix (hu1 hr) ea_str (ea_callF (okTakeW_A (ok_law_draw T)) (hr.mono (by decide)) T.g_law_draw T.F_law_draw.kp T.b_law_draw (el_cons (ea_v 0) (el_cons ea_int el_nil)))))))))
      (ss_oneA (sa_if (et_cmp (o_notIn (hu1 hr)) (ea_v 3) (ea_v 1)) (ss_oneA (sa_expr (ea_mtL PySem.F.slot_list_append PySem.F.type_list_append m_append (ea_v 1) (el_cons (ea_v 3) el_nil)))) ss_nilA))))))
      (ss_oneA (sa_ret (ea_v 1)))))
def tt_law_house (m : Nat) : TSA := (seqA (setA 2 (frzA (lstN (consL (frzA (lstN (consL (cstA (.str "a")) nilL))) (consL (frzA (lstN (consL (cstA (.str "a")) (consL (cstA (.str "b")) nilL)))) (consL (frzA (lstN (consL (cstA (.str "a")) (consL (cstA (.str "b")) (consL (cstA (.str "cc")) nilL))))) (consL (frzA (lstN (consL (cstA (.str "ab")) (consL (cstA (.str "abce")) (consL (cstA (.str "zbcd")) (consL (cstA (.str "abcd")) nilL)))))) nilL)))))))
    (seqA (setA 2 (opA addA (varA 2) (frzA (lstN (consL (frzA (lstN (consL (cstA (.str "key")) (consL (cstA (.str "a")) (consL (cstA (.str "b")) (consL (cstA (.str "abcd")) (consL (cstA (.str "keyb")) (consL (cstA (.str "cb")) (consL (cstA (.str "keya")) nilL))))))))) (consL (callF TT_law_words (consL (varA 0) nilL)) nilL))))))
    (seqA (setA 2 (opA ixA (varA 2) (callF tTakeW (consL (varA 0) (consL (cstA (.int 6)) nilL)))))
    (seqA (setA 3 (opA addA (cstA (.int 1)) (opA mulX (callF tTakeW (consL (varA 0) (consL (cstA (.int 2)) nilL))) (callF tTakeW (consL (varA 0) (consL (cstA (.int 4)) nilL))))))
    (seqA (setA 4 (ownA (lstN nilL)))
    (seqA (forA m (iterR1 (fun s Q => (varA 1) s fun x s1 => onSome x.int? fun j => -(2 ^ 62) ≤ j ∧ Q x s1)) (nameG 5) (seqA (setA 6 (frzA (bltN sortedN (consL (callF TT_law_kinds (consL (varA 0) (consL (opA addA (cstA (.int 1)) (callF tTakeW (consL (varA 0) (consL (varA 3) nilL)))) (consL (varA 2) nilL)))) nilL))))
    (dropA (mtL appendA (varA 4) (consL (tupA (consL (varA 6) (consL (callF TT_law_kinds (consL (varA 0) (consL (opA ixA (frzA (lstN (consL (cstA (.int 0)) (consL (cstA (.int 1)) (consL (cstA (.int 1)) (consL (cstA (.int 2)) (consL (cstA (.int 2)) (consL (cstA (.int 3)) (consL (cstA (.int 1)) (consL (cstA (.int 6)) nilL)))))))))) (callF tTakeW (consL (varA 0) (consL (cstA (.int 8)) nilL)))) (consL (varA 2) nilL)))) nilL))) nilL)))))
    (seqA (setA 1 (opA ixA (frzA (lstN (consL (cstA (.int 1)) (consL (cstA (.int 2)) (consL (cstA (.int 3)) (consL (cstA (.int 1)) (consL (cstA (.int 0)) (consL (cstA (.int 2)) (consL (cstA (.int 1)) (consL (opA addA (cstA (.int 30)) (callF tTakeW (consL (varA 0) (consL (cstA (.int 160)) nilL)))) nilL)))))))))) (callF tTakeW (consL (varA 0) (consL (cstA (.int 8)) nilL)))))
    (retA (tupA (consL (callF TT_law_kinds (consL (varA 0) (consL (varA 1) (consL (varA 2) nilL)))) (consL (fzA m 4) nilL)))))))))))
def TT_law_house : SpT := bodyT 5 (tt_law_house)
theorem kk_law_house {P : Program} {w : World} {K : PySem.W.Frag} {mg : Str → Option Value} {base : Heap} (T : Tx K mg) : FnOk P w K mg base CX0 3 T.f_law_house T.d_law_house ["pool", "many"] (spA 2 (TT_law_house)) :=
  okA T.F_law_house sc_law_house fun cdv A outer s H E B hr =>
    (ss_consA (sa_set 2 sc_law_house.nd (ea_frz (en_lst (el_cons (ea_frz (en_lst (el_cons ea_str el_nil))) (el_cons (ea_frz (en_lst (el_cons ea_str (el_cons ea_str el_nil)))) (el_cons (ea_frz (en_lst (el_cons ea_str (el_cons ea_str (el_cons ea_str el_nil))))) (el_cons (ea_frz (en_lst (el_cons ea_str (el_cons ea_str (el_cons ea_str (el_cons ea_str el_nil)))))) el_nil)))))))
      (ss_consA (sa_set 2 sc_law_house.nd (ea_op o_add (ea_v 2) (ea_frz (en_lst (el_cons (ea_frz (en_lst (el_cons ea_str (el_cons ea_str (el_cons ea_str (el_cons ea_str (el_cons ea_str (el_cons ea_str (el_cons ea_str el_nil))))))))) (el_cons (ea_callF (kk_law_words T) (hr.mono (by decide)) T.g_law_words T.F_law_words.kp T.b_law_words (el_cons (ea_v 0) el_nil)) el_nil))))))
      (ss_consA (sa_set 2 sc_law_house.nd (ea_ix (hu1 hr) (ea_v 2) (ea_callF (okTakeW_A (ok_law_draw T)) (hr.mono (by decide)) T.g_law_draw T.F_law_draw.kp T.b_law_draw (el_cons (ea_v 0) (el_cons ea_int el_nil)))))
      (ss_consA (sa_set 3 sc_law_house.nd (ea_op o_add ea_int (ea_op o_mulX (ea_callF (okTakeW_A (ok_law_draw T)) (hr.mono (by decide)) T.g_law_draw T.F_law_draw.kp T.b_law_draw (el_cons (ea_v 0) (el_cons ea_int el_nil))) (ea_callF (okTakeW_A (ok_law_draw T)) (hr.mono (by decide)) T.g_law_draw T.F_law_draw.kp T.b_law_draw (el_cons (ea_v 0) (el_cons ea_int el_nil))))))
      (ss_consA (sa_set 4 sc_law_house.nd (ea_own (en_lst el_nil)))
      (ss_consA (sa_for PassesOwn.never rfl (ia_range1 T.m_range (ea_v 1)) (gt_name 5 sc_law_house.nd) (fun _ _ => (ss_consA (sa_set 6 sc_law_house.nd (ea_frz (en_blt (c_sorted rfl) T.m_sorted (el_cons (ea_callF (kk_law_kinds T) (hr.mono (by decide)) T.g_law_kinds T.F_law_kinds.kp T.b_law_kinds (el_cons (ea_v 0) (el_cons (ea_op o_add ea_int (ea_callF (okTakeW_A (ok_law_draw T)) (hr.mono (by decide)) T.g_law_draw T.F_law_draw.kp T.b_law_draw (el_cons (ea_v 0) (el_cons (ea_v 3) el_nil)))) (el_cons (ea_v 2) el_nil)))) el_nil))))
      (ss_oneA (sa_expr (ea_mtL PySem.F.slot_list_append PySem.F.type_list_append m_append (ea_v 4) (el_cons (ea_tup (el_cons (ea_v 6) (el_cons (ea_callF (kk_law_kinds T) (hr.mono (by decide)) T.g_law_kinds T.F_law_kinds.kp T.b_law_kinds (el_cons (ea_v 0) (el_cons (ea_ix (hu1 hr) (ea_frz (en_lst (el_cons ea_int (el_cons ea_int (el_cons ea_int (el_cons ea_int (el_cons ea_int (el_cons ea_int (el_cons ea_int (el_cons ea_int el_nil)))))))))) (ea_callF (okTakeW_A (ok_law_draw T)) (hr.mono (by decide)) T.g_law_draw T.F_law_draw.kp T.b_law_draw (el_cons (ea_v 0) (el_cons ea_int el_nil)))) (el_cons (ea_v 2) el_nil)))) el_nil))) el_nil)))))))
      (ss_consA (sa_set 1 sc_law_house.nd (ea_ix (hu1 hr) (ea_frz (en_lst (el_cons ea_int (el_cons ea_int (el_cons ea_int (el_cons ea_int (el_cons ea_int (el_cons ea_int (el_cons ea_int (el_cons (ea_op o_add ea_int (ea_callF (okTakeW_A (ok_law_draw T)) (hr.mono (by decide)) T.g_law_draw T.F_law_draw.kp T.b_law_draw (el_cons (ea_v 0) (el_cons ea_int el_nil)))) el_nil)))))))))) (ea_callF (okTakeW_A (ok_law_draw T)) (hr.mono (by decide)) T.g_law_draw T.F_law_draw.kp T.b_law_draw (el_cons (ea_v 0) (el_cons ea_int el_nil)))))
      (ss_oneA (sa_ret (ea_tup (el_cons (ea_callF (kk_law_kinds T) (hr.mono (by decide)) T.g_law_kinds T.F_law_kinds.kp T.b_law_kinds (el_cons (ea_v 0) (el_cons (ea_v 1) (el_cons (ea_v 2) el_nil)))) (el_cons (ea_fz 4) el_nil))))))))))))
def tt_law_next (m : Nat) : TSA := (seqA (setA 2 (ownA (bltN listN (consL (opA ixA (varA 0) (cstA (.int 0))) nilL))))
    (seqA (forA m (iterL (varA 1)) (nameG 3) (seqA (forA m (iterL (opA ixA (opA ixA (opA ixA (varA 0) (cstA (.int 1))) (varA 3)) (cstA (.int 0)))) (nameG 4) (dropA (mtL removeA (varA 2) (consL (varA 4) nilL))))
    (setA 2 (ownA (opN catN (varA 2) (opA ixA (opA ixA (opA ixA (varA 0) (cstA (.int 1))) (varA 3)) (cstA (.int 1))))))))
    (seqA (setA 5 (ownA (lstN nilL)))
    (seqA (forA m (iterR1 (fun s Q => (bltA lenA (consL (opA ixA (varA 0) (cstA (.int 1))) nilL)) s fun x s1 => onSome x.int? fun j => -(2 ^ 62) ≤ j ∧ Q x s1)) (nameG 3) (seqA (setA 6 (frzA (lcN (ioT (iterL (opA ixA (opA ixA (opA ixA (varA 0) (cstA (.int 1))) (varA 3)) (cstA (.int 0))))) (nameG 4) (opT ltT (mtL countA (varA 2) (consL (varA 4) nilL)) (mtL countA (opA ixA (opA ixA (opA ixA (varA 0) (cstA (.int 1))) (varA 3)) (cstA (.int 0))) (consL (varA 4) nilL))) (varA 4) [4])))
    (ifA (andA (opT (inT true) (varA 3) (varA 1)) (nilT false (varA 6))) (dropA (mtL appendA (varA 5) (consL (varA 3) nilL))) nextA)))
    (retA (varA 5))))))
def TT_law_next : SpT := bodyT 5 (tt_law_next)
theorem kk_law_next {P : Program} {w : World} {K : PySem.W.Frag} {mg : Str → Option Value} {base : Heap} (T : Tx K mg) : FnOk P w K mg base CX0 1 T.f_law_next T.d_law_next ["house", "order"] (spA 2 (TT_law_next)) :=
  okA T.F_law_next sc_law_next fun cdv A outer s H E B hr =>
    (ss_consA (sa_set 2 sc_law_next.nd (ea_own (en_bty c_list T.m_list (el_cons (ea_ix (hu1 hr) (ea_v 0) ea_int) el_nil))))
      (ss_consA (sa_for PassesOwn.never rfl (ia_list (ea_v 1)) (gt_name 3 sc_law_next.nd) (fun _ _ => (ss_consA (sa_for PassesOwn.never rfl (ia_list (ea_ix (hu1 hr) (ea_ix (hu1 hr) (ea_ix (hu1 hr) (ea_v 0) ea_int) (ea_v 3)) ea_int)) (gt_name 4 sc_law_next.nd) (fun _ _ => (ss_oneA (sa_expr (ea_mtL PySem.F.slot_list_remove PySem.F.type_list_remove m_remove (ea_v 2) (el_cons (ea_v 4) el_nil))))))
      (ss_oneA (sa_set 2 sc_law_next.nd (ea_own (en_op o_cat (ea_v 2) (ea_ix (hu1 hr) (ea_ix (hu1 hr) (ea_ix (hu1 hr) (ea_v 0) ea_int) (ea_v 3)) ea_int))))))))
      (ss_consA (sa_set 5 sc_law_next.nd (ea_own (en_lst el_nil)))
      (ss_consA (sa_for PassesOwn.never rfl (ia_range1 T.m_range (ea_blt c_len T.m_len (el_cons (ea_ix (hu1 hr) (ea_v 0) ea_int) el_nil))) (gt_name 3 sc_law_next.nd) (fun _ _ => (ss_consA (sa_setLcIfF 6 [("kind", 4)] (lcok sc_law_next (by decide +kernel)) (IO.of (ia_list (ea_ix (hu1 hr) (ea_ix (hu1 hr) (ea_ix (hu1 hr) (ea_v 0) ea_int) (ea_v 3)) ea_int))) (fun _ _ _ _ _ => (gt_name 4 sc_law_next.nd)) (fun _ _ _ _ _ _ => (et_cmp o_lt (ea_mtL PySem.F.slot_list_count PySem.F.type_list_count m_count (ea_v 2) (el_cons (ea_v 4) el_nil)) (ea_mtL PySem.F.slot_list_count PySem.F.type_list_count m_count (ea_ix (hu1 hr) (ea_ix (hu1 hr) (ea_ix (hu1 hr) (ea_v 0) ea_int) (ea_v 3)) ea_int) (el_cons (ea_v 4) el_nil)))) (fun _ _ _ _ _ _ => (ea_v 4)))
      (ss_oneA (sa_if (ET.of_w (ew_and (et_cmp (o_notIn (hu1 hr)) (ea_v 3) (ea_v 1)) (ew_and1 (et_eqNil hr.units (ea_v 6))))) (ss_oneA (sa_expr (ea_mtL PySem.F.slot_list_append PySem.F.type_list_append m_append (ea_v 5) (el_cons (ea_v 3) el_nil)))) ss_nilA)))))
      (ss_oneA (sa_ret (ea_v 5)))))))
def tt_law_orders (m : Nat) : TSA := (seqA (setA 1 (ownA (lstN nilL)))
    (seqA (setA 2 (ownA (lstN (consL (frzA (lstN nilL)) nilL))))
    (seqA (whileA m (nilT true (varA 2)) (seqA (setA 3 (mtL0 (fun x xs s Q => xs = [] ∧ popA x xs s Q) (varA 2)))
    (seqA (dropA (mtL appendA (varA 1) (consL (varA 3) nilL)))
    (setA 2 (ownA (opN catN (varA 2) (frzA (lcN (ioT (iterL (frzA (revN (callF TT_law_next (consL (varA 0) (consL (varA 3) nilL))))))) (nameG 4) yesA (opA addA (varA 3) (frzA (lstN (consL (varA 4) nilL)))) [4]))))))))
    (retA (varA 1)))))
def TT_law_orders : SpT := bodyT 4 (tt_law_orders)
theorem kk_law_orders {P : Program} {w : World} {K : PySem.W.Frag} {mg : Str → Option Value} {base : Heap} (T : Tx K mg) : FnOk P w K mg base CX0 2 T.f_law_orders T.d_law_orders ["house"] (spA 1 (TT_law_orders)) :=
  okA T.F_law_orders sc_law_orders fun cdv A outer s H E B hr =>
    (ss_consA (sa_set 1 sc_law_orders.nd (ea_own (en_lst el_nil)))
      (ss_consA (sa_set 2 sc_law_orders.nd (ea_own (en_lst (el_cons (ea_frz (en_lst el_nil)) el_nil))))
      (ss_consA (sa_while PassesOwn.never (et_neNil hr.units (ea_v 2)) (ss_consA (sa_set 3 sc_law_orders.nd (ea_mtL0 PySem.F.slot_list_pop PySem.F.type_list_pop m_pop (ea_v 2)))
      (ss_consA (sa_expr (ea_mtL PySem.F.slot_list_append PySem.F.type_list_append m_append (ea_v 1) (el_cons (ea_v 3) el_nil)))
      (ss_oneA (sa_set 2 sc_law_orders.nd (ea_own (en_op o_cat (ea_v 2) (ea_frz (en_lc [("k", 4)] (lcok sc_law_orders (by decide +kernel)) (IO.of (ia_list (ea_frz (en_rev (ea_callF (kk_law_next T) (hr.mono (by decide)) T.g_law_next T.F_law_next.kp T.b_law_next (el_cons (ea_v 0) (el_cons (ea_v 3) el_nil))))))) (fun _ _ _ _ _ => (gt_name 4 sc_law_orders.nd)) (fun _ _ _ _ _ _ => (ea_op o_add (ea_v 3) (ea_frz (en_lst (el_cons (ea_v 4) el_nil))))))))))))))
      (ss_oneA (sa_ret (ea_v 1))))))
def tt_law_copy_r0 (m : Nat) : TSA := (seqA (ifA (valA (isiT "list" (varA 0))) neverA nextA)
    (seqA (ifA (valA (isiT "tuple" (varA 0))) neverA nextA)
    (retA (varA 0))))
def TT_law_copy_r0 : SpT := bodyT 1 (tt_law_copy_r0)
theorem kk_law_copy_r0 {P : Program} {w : World} {K : PySem.W.Frag} {mg : Str → Option Value} {base : Heap} (T : Tx K mg) : FnOk P w K mg base CX0 1 T.f_law_copy T.d_law_copy ["thing"] (spA 1 (TT_law_copy_r0)) :=
  okA T.F_law_copy sc_law_copy fun cdv A outer s H E B hr =>
    (ss_consA (sa_if (et_val (ea_isi (tn := "list") T.m_isinstance T.m_list (ea_v 0))) (ss_oneA sa_never) ss_nilA)
      (ss_consA (sa_if (et_val (ea_isi (tn := "tuple") T.m_isinstance T.m_tuple (ea_v 0))) (ss_oneA sa_never) ss_nilA)
      (ss_oneA (sa_ret (ea_v 0)))))
def tt_law_copy_r1 (m : Nat) : TSA := (seqA (ifA (valA (isiT "list" (varA 0))) (retA (ownA (lcN (iterO (varA 0)) (nameG 1) yesA (callF TT_law_copy_r0 (consL (varA 1) nilL)) [1]))) nextA)
    (seqA (ifA (valA (isiT "tuple" (varA 0))) (retA (bltA tupleA (consL (frzA (lcN (ioT (iterT (varA 0))) (nameG 1) yesA (callF TT_law_copy_r0 (consL (varA 1) nilL)) [1])) nilL))) nextA)
    (retA (varA 0))))
def TT_law_copy_r1 : SpT := bodyT 1 (tt_law_copy_r1)
theorem kk_law_copy_r1 {P : Program} {w : World} {K : PySem.W.Frag} {mg : Str → Option Value} {base : Heap} (T : Tx K mg) : FnOk P w K mg base CX0 2 T.f_law_copy T.d_law_copy ["thing"] (spA 1 (TT_law_copy_r1)) :=
  okA T.F_law_copy sc_law_copy fun cdv A outer s H E B hr =>
    (ss_consA (sa_if (et_val (ea_isi (tn := "list") T.m_isinstance T.m_list (ea_v 0))) (ss_oneA (sa_ret (ea_own (en_lc [("one", 1)] (lcok sc_law_copy (by decide +kernel)) (io_list (ea_v 0)) (fun _ _ _ _ _ => (gt_name 1 sc_law_copy.nd)) (fun _ _ _ _ _ _ => (ea_callF (kk_law_copy_r0 T) (hr.mono (by decide)) T.g_law_copy T.F_law_copy.kp T.b_law_copy (el_cons (ea_v 1) el_nil))))))) ss_nilA)
      (ss_consA (sa_if (et_val (ea_isi (tn := "tuple") T.m_isinstance T.m_tuple (ea_v 0))) (ss_oneA (sa_ret (ea_bty c_tuple T.m_tuple (el_cons (ea_frz (en_lc [("one", 1)] (lcok sc_law_copy (by decide +kernel)) (IO.of (ia_tup (ea_v 0))) (fun _ _ _ _ _ => (gt_name 1 sc_law_copy.nd)) (fun _ _ _ _ _ _ => (ea_callF (kk_law_copy_r0 T) (hr.mono (by decide)) T.g_law_copy T.F_law_copy.kp T.b_law_copy (el_cons (ea_v 1) el_nil))))) el_nil)))) ss_nilA)
      (ss_oneA (sa_ret (ea_v 0)))))
def tt_law_copy_r2 (m : Nat) : TSA := (seqA (ifA (valA (isiT "list" (varA 0))) (retA (ownA (lcN (iterO (varA 0)) (nameG 1) yesA (callF TT_law_copy_r1 (consL (varA 1) nilL)) [1]))) nextA)
    (seqA (ifA (valA (isiT "tuple" (varA 0))) (retA (bltA tupleA (consL (frzA (lcN (ioT (iterT (varA 0))) (nameG 1) yesA (callF TT_law_copy_r1 (consL (varA 1) nilL)) [1])) nilL))) nextA)
    (retA (varA 0))))
def TT_law_copy_r2 : SpT := bodyT 1 (tt_law_copy_r2)
theorem kk_law_copy_r2 {P : Program} {w : World} {K : PySem.W.Frag} {mg : Str → Option Value} {base : Heap} (T : Tx K mg) : FnOk P w K mg base CX0 3 T.f_law_copy T.d_law_copy ["thing"] (spA 1 (TT_law_copy_r2)) :=
  okA T.F_law_copy sc_law_copy fun cdv A outer s H E B hr =>
    (ss_consA (sa_if (et_val (ea_isi (tn := "list") T.m_isinstance T.m_list (ea_v 0))) (ss_oneA (sa_ret (ea_own (en_lc [("one", 1)] (lcok sc_law_copy (by decide +kernel)) (io_list (ea_v 0)) (fun _ _ _ _ _ => (gt_name 1 sc_law_copy.nd)) (fun _ _ _ _ _ _ => (ea_callF (kk_law_copy_r1 T) (hr.mono (by decide)) T.g_law_copy T.F_law_copy.kp T.b_law_copy (el_cons (ea_v 1) el_nil))))))) ss_nilA)
      (ss_consA (sa_if (et_val (ea_isi (tn := "tuple") T.m_isinstance T.m_tuple (ea_v 0))) (ss_oneA (sa_ret (ea_bty c_tuple T.m_tuple (el_cons (ea_frz (en_lc [("one", 1)] (lcok sc_law_copy (by decide +kernel)) (IO.of (ia_tup (ea_v 0))) (fun _ _ _ _ _ => (gt_name 1 sc_law_copy.nd)) (fun _ _ _ _ _ _ => (ea_callF (kk_law_copy_r1 T) (hr.mono (by decide)) T.g_law_copy T.F_law_copy.kp T.b_law_copy (el_cons (ea_v 1) el_nil))))) el_nil)))) ss_nilA)
      (ss_oneA (sa_ret (ea_v 0)))))
def tt_law_copy_r3 (m : Nat) : TSA := (seqA (ifA (valA (isiT "list" (varA 0))) (retA (ownA (lcN (iterO (varA 0)) (nameG 1) yesA (callF TT_law_copy_r2 (consL (varA 1) nilL)) [1]))) nextA)
    (seqA (ifA (valA (isiT "tuple" (varA 0))) (retA (bltA tupleA (consL (frzA (lcN (ioT (iterT (varA 0))) (nameG 1) yesA (callF TT_law_copy_r2 (consL (varA 1) nilL)) [1])) nilL))) nextA)
    (retA (varA 0))))
def TT_law_copy_r3 : SpT := bodyT 1 (tt_law_copy_r3)
theorem kk_law_copy_r3 {P : Program} {w : World} {K : PySem.W.Frag} {mg : Str → Option Value} {base : Heap} (T : Tx K mg) : FnOk P w K mg base CX0 4 T.f_law_copy T.d_law_copy ["thing"] (spA 1 (TT_law_copy_r3)) :=
  okA T.F_law_copy sc_law_copy fun cdv A outer s H E B hr =>
    (ss_consA (sa_if (et_val (ea_isi (tn := "list") T.m_isinstance T.m_list (ea_v 0))) (ss_oneA (sa_ret (ea_own (en_lc [("one", 1)] (lcok sc_law_copy (by decide +kernel)) (io_list (ea_v 0)) (fun _ _ _ _ _ => (gt_name 1 sc_law_copy.nd)) (fun _ _ _ _ _ _ => (ea_callF (kk_law_copy_r2 T) (hr.mono (by decide)) T.g_law_copy T.F_law_copy.kp T.b_law_copy (el_cons (ea_v 1) el_nil))))))) ss_nilA)
      (ss_consA (sa_if (et_val (ea_isi (tn := "tuple") T.m_isinstance T.m_tuple (ea_v 0))) (ss_oneA (sa_ret (ea_bty c_tuple T.m_tuple (el_cons (ea_frz (en_lc [("one", 1)] (lcok sc_law_copy (by decide +kernel)) (IO.of (ia_tup (ea_v 0))) (fun _ _ _ _ _ => (gt_name 1 sc_law_copy.nd)) (fun _ _ _ _ _ _ => (ea_callF (kk_law_copy_r2 T) (hr.mono (by decide)) T.g_law_copy T.F_law_copy.kp T.b_law_copy (el_cons (ea_v 1) el_nil))))) el_nil)))) ss_nilA)
      (ss_oneA (sa_ret (ea_v 0)))))
def tt_law_copy_r4 (m : Nat) : TSA := (seqA (ifA (valA (isiT "list" (varA 0))) (retA (ownA (lcN (iterO (varA 0)) (nameG 1) yesA (callF TT_law_copy_r3 (consL (varA 1) nilL)) [1]))) nextA)
    (seqA (ifA (valA (isiT "tuple" (varA 0))) (retA (bltA tupleA (consL (frzA (lcN (ioT (iterT (varA 0))) (nameG 1) yesA (callF TT_law_copy_r3 (consL (varA 1) nilL)) [1])) nilL))) nextA)
    (retA (varA 0))))
def TT_law_copy_r4 : SpT := bodyT 1 (tt_law_copy_r4)
theorem kk_law_copy_r4 {P : Program} {w : World} {K : PySem.W.Frag} {mg : Str → Option Value} {base : Heap} (T : Tx K mg) : FnOk P w K mg base CX0 5 T.f_law_copy T.d_law_copy ["thing"] (spA 1 (TT_law_copy_r4)) :=
  okA T.F_law_copy sc_law_copy fun cdv A outer s H E B hr =>
    (ss_consA (sa_if (et_val (ea_isi (tn := "list") T.m_isinstance T.m_list (ea_v 0))) (ss_oneA (sa_ret (ea_own (en_lc [("one", 1)] (lcok sc_law_copy (by decide +kernel)) (io_list (ea_v 0)) (fun _ _ _ _ _ => (gt_name 1 sc_law_copy.nd)) (fun _ _ _ _ _ _ => (ea_callF (kk_law_copy_r3 T) (hr.mono (by decide)) T.g_law_copy T.F_law_copy.kp T.b_law_copy (el_cons (ea_v 1) el_nil))))))) ss_nilA)
      (ss_consA (sa_if (et_val (ea_isi (tn := "tuple") T.m_isinstance T.m_tuple (ea_v 0))) (ss_oneA (sa_ret (ea_bty c_tuple T.m_tuple (el_cons (ea_frz (en_lc [("one", 1)] (lcok sc_law_copy (by decide +kernel)) (IO.of (ia_tup (ea_v 0))) (fun _ _ _ _ _ => (gt_name 1 sc_law_copy.nd)) (fun _ _ _ _ _ _ => (ea_callF (kk_law_copy_r3 T) (hr.mono (by decide)) T.g_law_copy T.F_law_copy.kp T.b_law_copy (el_cons (ea_v 1) el_nil))))) el_nil)))) ss_nilA)
      (ss_oneA (sa_ret (ea_v 0)))))
def tt_law_worths (m : Nat) : TSA := (seqA (setA 2 (callF tTakeW (consL (varA 0) (consL (cstA (.int 5)) nilL))))
    (retA (ownA (lcN (ioT (iterR1 (fun s Q => (varA 1) s fun x s1 => onSome x.int? fun j => -(2 ^ 62) ≤ j ∧ Q x s1))) (nameG 3) yesA (opA ixA (frzA (lstN (consL (cstA (.int 1)) (consL (callF tTakeW (consL (varA 0) (consL (cstA (.int 4)) nilL))) (consL (cstA (.int 0)) (consL (callF tTakeW (consL (varA 0) (consL (opA powA (cstA (.int 10)) (cstA (.int 28))) nilL))) (consL (opA mulX (cstA (.int 7)) (opA modA (varA 3) (cstA (.int 2)))) nilL))))))) (varA 2)) [3]))))
def TT_law_worths : SpT := bodyT 2 (tt_law_worths)
theorem kk_law_worths {P : Program} {w : World} {K : PySem.W.Frag} {mg : Str → Option Value} {base : Heap} (T : Tx K mg) : FnOk P w K mg base CX0 2 T.f_law_worths T.d_law_worths ["pool", "many"] (spA 2 (TT_law_worths)) :=
  okA T.F_law_worths sc_law_worths fun cdv A outer s H E B hr =>
    (ss_consA (sa_set 2 sc_law_worths.nd (ea_callF (okTakeW_A (ok_law_draw T)) (hr.mono (by decide)) T.g_law_draw T.F_law_draw.kp T.b_law_draw (el_cons (ea_v 0) (el_cons ea_int el_nil))))
      (ss_oneA (sa_ret (ea_own (en_lc [("k", 3)] (lcok sc_law_worths (by decide +kernel)) (IO.of (ia_range1 T.m_range (ea_v 1))) (fun _ _ _ _ _ => (gt_name 3 sc_law_worths.nd)) (fun _ _ _ _ _ _ => (ea_ix (hu1 hr) (ea_frz (en_lst (el_cons ea_int (el_cons (ea_callF (okTakeW_A (ok_law_draw T)) (hr.mono (by decide)) T.g_law_draw T.F_law_draw.kp T.b_law_draw (el_cons (ea_v 0) (el_cons ea_int el_nil))) (el_cons ea_int (el_cons (ea_callF (okTakeW_A (ok_law_draw T)) (hr.mono (by decide)) T.g_law_draw T.F_law_draw.kp T.b_law_draw (el_cons (ea_v 0) (el_cons (ea_op o_pow ea_int ea_int) el_nil))) (el_cons (ea_op o_mulX ea_int (ea_op o_mod (ea_v 3) ea_int)) el_nil))))))) (ea_v 2))))))))
def tt_law_worth (m : Nat) : TSA := (retA (bltA sumA (consL (frzA (lcN (iterO (varA 1)) (nameG 2) yesA (opA ixA (varA 0) (varA 2)) [2])) nilL)))
def TT_law_worth : SpT := bodyT 1 (tt_law_worth)
theorem kk_law_worth {P : Program} {w : World} {K : PySem.W.Frag} {mg : Str → Option Value} {base : Heap} (T : Tx K mg) : FnOk P w K mg base CX0 1 T.f_law_worth T.d_law_worth ["worths", "order"] (spA 2 (TT_law_worth)) :=
  okA T.F_law_worth sc_law_worth fun cdv A outer s H E B hr =>
    (ss_oneA (sa_ret (ea_blt (c_sum rfl) T.m_sum (el_cons (ea_frz (en_lc [("k", 2)] (lcok sc_law_worth (by decide +kernel)) (io_list (ea_v 1)) (fun _ _ _ _ _ => (gt_name 2 sc_law_worth.nd)) (fun _ _ _ _ _ _ => (ea_ix (hu1 hr) (ea_v 0) (ea_v 2))))) el_nil))))
def tt_law_best (m : Nat) : TSA := (seqA (setA 2 (bltA (bestDA PySem.W.maxD) (consL (frzA (lcN (iterO (varA 1)) (nameG 3) yesA (callF TT_law_worth (consL (varA 0) (consL (varA 3) nilL))) [3])) nilL)))
    (seqA (setA 4 (frzA (lcN (iterO (varA 1)) (nameG 3) (opT (eqT false) (callF TT_law_worth (consL (varA 0) (consL (varA 3) nilL))) (varA 2)) (varA 3) [3])))
    (seqA (setA 5 (bltA (bestDA PySem.W.minD) (consL (frzA (lcN (iterO (varA 4)) (nameG 3) yesA (bltA lenA (consL (varA 3) nilL)) [3])) nilL)))
    (retA (tupA (consL (varA 2) (consL (bltA (bestDA PySem.W.minD) (consL (frzA (lcN (iterO (varA 4)) (nameG 3) (opT (eqT false) (bltA lenA (consL (varA 3) nilL)) (varA 5)) (varA 3) [3])) nilL)) nilL)))))))
def TT_law_best : SpT := bodyT 4 (tt_law_best)
theorem kk_law_best {P : Program} {w : World} {K : PySem.W.Frag} {mg : Str → Option Value} {base : Heap} (T : Tx K mg) : FnOk P w K mg base CX0 2 T.f_law_best T.d_law_best ["worths", "every"] (spA 2 (TT_law_best)) :=
  okA T.F_law_best sc_law_best fun cdv A outer s H E B hr =>
    (ss_consA (sa_set 2 sc_law_best.nd (ea_blt (c_maxD rfl hr.units) T.m_max (el_cons (ea_frz (en_lc [("order", 3)] (lcok sc_law_best (by decide +kernel)) (io_list (ea_v 1)) (fun _ _ _ _ _ => (gt_name 3 sc_law_best.nd)) (fun _ _ _ _ _ _ => (ea_callF (kk_law_worth T) (hr.mono (by decide)) T.g_law_worth T.F_law_worth.kp T.b_law_worth (el_cons (ea_v 0) (el_cons (ea_v 3) el_nil)))))) el_nil)))
      (ss_consA (sa_setLcIfF 4 [("order", 3)] (lcok sc_law_best (by decide +kernel)) (io_list (ea_v 1)) (fun _ _ _ _ _ => (gt_name 3 sc_law_best.nd)) (fun _ _ _ _ _ _ => (et_cmp (o_eq hr.units) (ea_callF (kk_law_worth T) (hr.mono (by decide)) T.g_law_worth T.F_law_worth.kp T.b_law_worth (el_cons (ea_v 0) (el_cons (ea_v 3) el_nil))) (ea_v 2))) (fun _ _ _ _ _ _ => (ea_v 3)))
      (ss_consA (sa_set 5 sc_law_best.nd (ea_blt (c_minD rfl hr.units) T.m_min (el_cons (ea_frz (en_lc [("order", 3)] (lcok sc_law_best (by decide +kernel)) (io_list (ea_v 4)) (fun _ _ _ _ _ => (gt_name 3 sc_law_best.nd)) (fun _ _ _ _ _ _ => (ea_blt c_len T.m_len (el_cons (ea_v 3) el_nil))))) el_nil)))
      (ss_oneA (sa_ret (ea_tup (el_cons (ea_v 2) (el_cons (ea_blt (c_minD rfl hr.units) T.m_min (el_cons (ea_frz (en_lcIf [("order", 3)] (lcok sc_law_best (by decide +kernel)) (io_list (ea_v 4)) (fun _ _ _ _ _ => (gt_name 3 sc_law_best.nd)) (fun _ _ _ _ _ _ => (et_cmp (o_eq hr.units) (ea_blt c_len T.m_len (el_cons (ea_v 3) el_nil)) (ea_v 5))) (fun _ _ _ _ _ _ => (ea_v 3)))) el_nil)) el_nil))))))))
def tt_law_sets_right (O : OT) (m : Nat) : TSA := (seqA (forA m (iterR1 (fun s Q => (cstA (.int 2)) s fun x s1 => onSome x.int? fun j => -(2 ^ 62) ≤ j ∧ Q x s1)) (nameG 2) (seqA (setA 3 (callO (TT_stuck_sets_t O) (consL (varA 0) nilL)))
    (seqA (ifA (orA (notA (valA (isiT "list" (varA 3)))) (opT (eqT true) (varA 3) (varA 1))) (retA (cstA (.bool false))) nextA)
    (seqA (forKA m yE (asA (varA 3)) (tup2N (nameG 4) (nameG 5)) (dropA (mtL appendT (varA 5) (consL (opA addA (cstA (.int 50)) (varA 4)) nilL))))
    (seqA (ifA (opT (eqT true) (varA 3) (frzA (lcN (ioT (iterE (varA 1))) (tup2G (nameG 4) (nameG 5)) yesA (opA addA (varA 5) (frzA (lstN (consL (opA addA (cstA (.int 50)) (varA 4)) nilL)))) [4, 5]))) (retA (cstA (.bool false))) nextA)
    (dropA (mtL appendT (varA 3) (consL (ownA (lstN nilL)) nilL))))))))
    (retA (cstA (.bool true))))
def TT_law_sets_right (O : OT) : SpT := bodyT 4 (tt_law_sets_right O)
theorem kk_law_sets_right {P : Program} {w : World} {K : PySem.W.Frag} {mg : Str → Option Value} {base : Heap} (T : Tx K mg) : FnOk P w K mg base CX0 19 T.f_law_sets_right T.d_law_sets_right ["house", "due"] (spA 2 (TT_law_sets_right T.O)) :=
  okA T.F_law_sets_right sc_law_sets_right fun cdv A outer s H E B hr =>
    (ss_consA (sa_for PassesOwn.never rfl (ia_range1 T.m_range ea_int) (gt_name 2 sc_law_sets_right.nd) (fun _ _ => (ss_consA (sa_set 3 sc_law_sets_right.nd (ea_callO (kk_stuck_sets_t T) (hr.mono (by decide)) T.g_stuck_sets T.F_stuck_sets.kp T.b_stuck_sets (el_cons (ea_v 0) el_nil)))
      (ss_consA (sa_if (ET.of_w (ew_or (et_not (et_val (ea_isi (tn := "list") T.m_isinstance T.m_list (ea_v 3)))) (ew_or1 (et_cmp (o_ne hr.units) (ea_v 3) (ea_v 1))))) (ss_oneA (sa_ret ea_bool)) ss_nilA)
      (ss_consA (sa_forK PassesOwn.never rfl (ik_enum T.m_enumerate (ea_asA (ea_v 3))) y_E (gt_tup2N rfl (gt_name 4 sc_law_sets_right.nd) (gt_name 5 sc_law_sets_right.nd)) (fun _ _ => (ss_oneA (sa_expr (ea_mtL PySem.F.slot_list_append PySem.F.type_list_append m_appendT (ea_v 5) (el_cons (ea_op o_add ea_int (ea_v 4)) el_nil))))))
      (ss_consA (sa_if (et_cmp (o_ne hr.units) (ea_v 3) (ea_frz (en_lc [("at", 4), ("rooms", 5)] (lcok sc_law_sets_right (by decide +kernel)) (IO.of (ia_enum T.m_enumerate (ea_v 1))) (fun _ _ _ _ _ => (gt_tup2 rfl (gt_name 4 sc_law_sets_right.nd) (gt_name 5 sc_law_sets_right.nd))) (fun _ _ _ _ _ _ => (ea_op o_add (ea_v 5) (ea_frz (en_lst (el_cons (ea_op o_add ea_int (ea_v 4)) el_nil)))))))) (ss_oneA (sa_ret ea_bool)) ss_nilA)
      (ss_oneA (sa_expr (ea_mtL PySem.F.slot_list_append PySem.F.type_list_append m_appendT (ea_v 3) (el_cons (ea_own (en_lst el_nil)) el_nil))))))))))
      (ss_oneA (sa_ret ea_bool)))
def tt_law (K : PySem.W.Frag) (O : OT) (m : Nat) : TSA := (seqA (forA m (iterR1 (fun s Q => (bltA maxA (consL (cstA (.int 1)) (consL (bltA minA (consL (cstA (.int 4)) (consL (scrLen K 0) nilL))) nilL))) s fun x s1 => onSome x.int? fun j => -(2 ^ 62) ≤ j ∧ Q x s1)) (nameG 1) (seqA (setA 2 (callO (tPool K) (consL (varA 0) (consL (varA 1) nilL))))
    (seqA (setA 3 (callF TT_law_house (consL (varA 2) (consL (opA ixA (frzA (lstN (consL (callF tTakeW (consL (varA 2) (consL (cstA (.int 6)) nilL))) (consL (cstA (.int 6)) nilL)))) (bltA intA (consL (boolA (opT (eqT false) (callF tTakeW (consL (varA 2) (consL (cstA (.int 4)) nilL))) (cstA (.int 1)))) nilL))) nilL))))
    (seqA (setA 4 (callF TT_law_worths (consL (varA 2) (consL (bltA lenA (consL (opA ixA (varA 3) (cstA (.int 1))) nilL)) nilL))))
    (seqA (setA 5 (callF TT_law_orders (consL (varA 3) nilL)))
    (seqA (setA 6 (bltA (bestDA PySem.W.maxD) (consL (frzA (lcN (iterO (varA 5)) (nameG 7) yesA (bltA lenA (consL (varA 7) nilL)) [7])) nilL)))
    (seqA (setA 8 (tupA (consL (varA 6) (consL (bltA (bestDA PySem.W.minD) (consL (frzA (lcN (iterO (varA 5)) (nameG 7) (opT (eqT false) (bltA lenA (consL (varA 7) nilL)) (varA 6)) (varA 7) [7])) nilL)) nilL))))
    (seqA (setA 9 (frzA (lstN (consL (callF TT_law_copy_r4 (consL (varA 3) nilL)) (consL (frzA (bltN listN (consL (varA 4) nilL))) nilL)))))
    (seqA (forA m (iterR1 (fun s Q => (cstA (.int 2)) s fun x s1 => onSome x.int? fun j => -(2 ^ 62) ≤ j ∧ Q x s1)) (nameG 10) (seqA (setA 11 (callO (TT_most_rooms_t O) (consL (opA ixA (varA 9) (cstA (.int 0))) nilL)))
    (seqA (ifA (orA (notA (valA (isiT "tuple" (varA 11)))) (orA (notA (valA (isiT "list" (opA ixA (varA 11) (cstA (.int 1)))))) (opT (eqT true) (varA 11) (varA 8)))) (retA (cstA (.bool false))) nextA)
    (seqA (dropA (mtL appendT (opA ixA (varA 11) (cstA (.int 1))) (consL (cstA (.int 5)) nilL)))
    (seqA (setA 11 (callO (TT_most_worth_t O) (consL (opA ixA (varA 9) (cstA (.int 0))) (consL (opA ixA (varA 9) (cstA (.int 1))) nilL))))
    (seqA (ifA (orA (notA (valA (isiT "tuple" (varA 11)))) (orA (notA (valA (isiT "list" (opA ixA (varA 11) (cstA (.int 1)))))) (opT (eqT true) (varA 11) (callF TT_law_best (consL (varA 4) (consL (varA 5) nilL)))))) (retA (cstA (.bool false))) nextA)
    (dropA (mtL appendT (opA ixA (varA 11) (cstA (.int 1))) (consL (cstA (.int 5)) nilL)))))))))
    (seqA (setA 12 (frzA (lcN (iterO (varA 5)) (nameG 7) (nilT false (callF TT_law_next (consL (varA 3) (consL (varA 7) nilL)))) (frzA (bltN sortedN (consL (varA 7) nilL))) [7])))
    (seqA (setA 13 (ownA (lstN nilL)))
    (seqA (forA m (iterL (frzA (bltN sortedDN (consL (varA 12) nilL)))) (nameG 14) (ifA (opT (inDT true) (varA 14) (varA 13)) (dropA (mtL appendA (varA 13) (consL (varA 14) nilL))) nextA))
    (ifA (orA (notA (valA (callF (TT_law_sets_right O) (consL (opA ixA (varA 9) (cstA (.int 0))) (consL (fzA m 13) nilL))))) (opT (eqT true) (varA 9) (frzA (lstN (consL (varA 3) (consL (varA 4) nilL)))))) (retA (cstA (.bool false))) nextA)))))))))))))
    (retA (cstA (.bool true))))
def TT_law (K : PySem.W.Frag) (O : OT) : SpT := bodyT 14 (tt_law K O)
theorem kk_law {P : Program} {w : World} {K : PySem.W.Frag} {mg : Str → Option Value} {base : Heap} (T : Tx K mg) : FnOk P w K mg base CX0 20 T.f_law T.d_law ["script"] (spA 1 (TT_law K T.O)) :=
  okA T.F_law sc_law fun cdv A outer s H E B hr =>
    (ss_consA (sa_for PassesOwn.never rfl (ia_range1 T.m_range (ea_blt (c_max rfl) T.m_max (el_cons ea_int (el_cons (ea_blt (c_min rfl) T.m_min (el_cons ea_int (el_cons (ea_scrLen 0 T.m_len) el_nil))) el_nil)))) (gt_name 1 sc_law.nd) (fun _ _ => (ss_consA (sa_set 2 sc_law.nd (ea_callO (okPool_A (ok_law_pool T) fun _ _ _ _ h => h) (hr.mono (by decide)) T.g_law_pool T.F_law_pool.kp T.b_law_pool (el_cons (ea_v 0) (el_cons (ea_v 1) el_nil))))
      (ss_consA (sa_set 3 sc_law.nd (ea_callF (kk_law_house T) (hr.mono (by decide)) T.g_law_house T.F_law_house.kp T.b_law_house (el_cons (ea_v 2) (el_cons (ea_ix (hu1 hr) (ea_frz (en_lst (el_cons (ea_callF (okTakeW_A (ok_law_draw T)) (hr.mono (by decide)) T.g_law_draw T.F_law_draw.kp T.b_law_draw (el_cons (ea_v 2) (el_cons ea_int el_nil))) (el_cons ea_int el_nil)))) (ea_bty c_int T.m_int (el_cons (ea_cmp (o_eq hr.units) (ea_callF (okTakeW_A (ok_law_draw T)) (hr.mono (by decide)) T.g_law_draw T.F_law_draw.kp T.b_law_draw (el_cons (ea_v 2) (el_cons ea_int el_nil))) ea_int) el_nil))) el_nil))))
      (ss_consA (sa_set 4 sc_law.nd (ea_callF (kk_law_worths T) (hr.mono (by decide)) T.g_law_worths T.F_law_worths.kp T.b_law_worths (el_cons (ea_v 2) (el_cons (ea_blt c_len T.m_len (el_cons (ea_ix (hu1 hr) (ea_v 3) ea_int) el_nil)) el_nil))))
      (ss_consA (sa_set 5 sc_law.nd (ea_callF (kk_law_orders T) (hr.mono (by decide)) T.g_law_orders T.F_law_orders.kp T.b_law_orders (el_cons (ea_v 3) el_nil)))
      (ss_consA (sa_set 6 sc_law.nd (ea_blt (c_maxD rfl hr.units) T.m_max (el_cons (ea_frz (en_lc [("order", 7)] (lcok sc_law (by decide +kernel)) (io_list (ea_v 5)) (fun _ _ _ _ _ => (gt_name 7 sc_law.nd)) (fun _ _ _ _ _ _ => (ea_blt c_len T.m_len (el_cons (ea_v 7) el_nil))))) el_nil)))
      (ss_consA (sa_set 8 sc_law.nd (ea_tup (el_cons (ea_v 6) (el_cons (ea_blt (c_minD rfl hr.units) T.m_min (el_cons (ea_frz (en_lcIf [("order", 7)] (lcok sc_law (by decide +kernel)) (io_list (ea_v 5)) (fun _ _ _ _ _ => (gt_name 7 sc_law.nd)) (fun _ _ _ _ _ _ => (et_cmp (o_eq hr.units) (ea_blt c_len T.m_len (el_cons (ea_v 7) el_nil)) (ea_v 6))) (fun _ _ _ _ _ _ => (ea_v 7)))) el_nil)) el_nil))))
      (ss_consA (sa_set 9 sc_law.nd (ea_frz (en_lst (el_cons (ea_callF (kk_law_copy_r4 T) (hr.mono (by decide)) T.g_law_copy T.F_law_copy.kp T.b_law_copy (el_cons (ea_v 3) el_nil)) (el_cons (ea_frz (en_bty c_list T.m_list (el_cons (ea_v 4) el_nil))) el_nil)))))
      (ss_consA (sa_for PassesOwn.never rfl (ia_range1 T.m_range ea_int) (gt_name 10 sc_law.nd) (fun _ _ => (ss_consA (sa_set 11 sc_law.nd (ea_callO (kk_most_rooms_t T) (hr.mono (by decide)) T.g_most_rooms T.F_most_rooms.kp T.b_most_rooms (el_cons (ea_ix (hu1 hr) (ea_v 9) ea_int) el_nil)))
      (ss_consA (sa_if (ET.of_w (ew_or (et_not (et_val (ea_isi (tn := "tuple") T.m_isinstance T.m_tuple (ea_v 11)))) (ew_or (et_not (et_val (ea_isi (tn := "list") T.m_isinstance T.m_list (ea_ix (hu1 hr) (ea_v 11) ea_int)))) (ew_or1 (et_cmp (o_ne hr.units) (ea_v 11) (ea_v 8)))))) (ss_oneA (sa_ret ea_bool)) ss_nilA)
      (ss_consA (sa_expr (ea_mtL PySem.F.slot_list_append PySem.F.type_list_append m_appendT (ea_ix (hu1 hr) (ea_v 11) ea_int) (el_cons ea_int el_nil)))
      (ss_consA (sa_set 11 sc_law.nd (ea_callO (kk_most_worth_t T) (hr.mono (by decide)) T.g_most_worth T.F_most_worth.kp T.b_most_worth (el_cons (ea_ix (hu1 hr) (ea_v 9) ea_int) (el_cons (ea_ix (hu1 hr) (ea_v 9) ea_int) el_nil))))
      (ss_consA (sa_if (ET.of_w (ew_or (et_not (et_val (ea_isi (tn := "tuple") T.m_isinstance T.m_tuple (ea_v 11)))) (ew_or (et_not (et_val (ea_isi (tn := "list") T.m_isinstance T.m_list (ea_ix (hu1 hr) (ea_v 11) ea_int)))) (ew_or1 (et_cmp (o_ne hr.units) (ea_v 11) (ea_callF (kk_law_best T) (hr.mono (by decide)) T.g_law_best T.F_law_best.kp T.b_law_best (el_cons (ea_v 4) (el_cons (ea_v 5) el_nil)))))))) (ss_oneA (sa_ret ea_bool)) ss_nilA)
      (ss_oneA (sa_expr (ea_mtL PySem.F.slot_list_append PySem.F.type_list_append m_appendT (ea_ix (hu1 hr) (ea_v 11) ea_int) (el_cons ea_int el_nil)))))))))))
      (ss_consA (sa_setLcIfF 12 [("order", 7)] (lcok sc_law (by decide +kernel)) (io_list (ea_v 5)) (fun _ _ _ _ _ => (gt_name 7 sc_law.nd)) (fun _ _ _ _ _ _ => (et_eqNil hr.units (ea_callF (kk_law_next T) (hr.mono (by decide)) T.g_law_next T.F_law_next.kp T.b_law_next (el_cons (ea_v 3) (el_cons (ea_v 7) el_nil))))) (fun _ _ _ _ _ _ => (ea_frz (en_blt (c_sorted rfl) T.m_sorted (el_cons (ea_v 7) el_nil)))))
      (ss_consA (sa_set 13 sc_law.nd (ea_own (en_lst el_nil)))
      (ss_consA (sa_for PassesOwn.never rfl (ia_list (ea_frz (en_blt (c_sortedD hr.units) T.m_sorted (el_cons (ea_v 12) el_nil)))) (gt_name 14 sc_law.nd) (fun _ _ => (ss_oneA (sa_if (et_cmp (o_notInD (hu65 hr)) (ea_v 14) (ea_v 13)) (ss_oneA (sa_expr (ea_mtL PySem.F.slot_list_append PySem.F.type_list_append m_append (ea_v 13) (el_cons (ea_v 14) el_nil)))) ss_nilA))))
      (ss_oneA (sa_if (ET.of_w (ew_or (et_not (et_val (ea_callF (kk_law_sets_right T) (hr.mono (by decide)) T.g_law_sets_right T.F_law_sets_right.kp T.b_law_sets_right (el_cons (ea_ix (hu1 hr) (ea_v 9) ea_int) (el_cons (ea_fz 13) el_nil))))) (ew_or1 (et_cmp (o_ne hr.units) (ea_v 9) (ea_frz (en_lst (el_cons (ea_v 3) (el_cons (ea_v 4) el_nil)))))))) (ss_oneA (sa_ret ea_bool)) ss_nilA)))))))))))))))
      (ss_oneA (sa_ret ea_bool)))
theorem keep_names : True := by
  first
    | trivial
    | simp only [bodyT, retA, boolA, nilT, frzA, ownA, lcN, iterL, ioT, iterE, iterR1, iterR2, varA, nameG, opT, opA, opN, cstA, mtL, mtL0, consL, nilL, setA, dropA, forA, bltA, bltN, asgA, ifA, nextA, retN, andA, orA, notA, valA, andV, orV, notV, ifV, tupA, lstN, putS, augS, callF, callO, callW, intOp, intOp0, intT, subA, modA, fdivA, leT, gtT, geT, eqT, catN, repN, chainT, negA, joinA, ssetN, slHi, slLo, slHiN, slLoN, slN, listN, sumA, minA, maxA, isiT, appendA, extendA, removeA, popA, popAtA, clearA, countA, newD, retD, neverA, yesA, lcStep, refsOf, subC, putC, datas, wipeA, ksD, roomD, houseD, retP_d, retP_rE, addA_int, addA_str, addA_lst, addA_r, mulA_int, mulA_lst, mulA_r, ltT_str, ltT_int, ixA_V, slA_V, inT_V, tup2G_V, tup3G_V, lenA_V, sortedN_V, getA2_V, isDct_V, onLst_r, onDct_r, intA_int, intA_bool, fzA_V, resF_f, resF_n, resO_f, resO_n, listOf_r, listOf_d, fzList_r, fzList_d, isLst_r, isLst_d, view_r, view_d, viewD_list, viewD_tuple, viewD_str, viewD_dictD, tyOf_r, tyOf_d, tupOf_r, tupOf_d, tupOf_dl, tupC_lst, tupC_fzl, scrLen_0, iterO_V, eqOk_int, eqOk_str, eqOk_bool, eqv_int, eqv_str, eqv_bool, kb_ll, kb_ii, kb_ib, kb_bb, kb_bi, kb_ss, kb_tt, kb_dd, AVal.int?_int, AVal.str?_str, AVal.bool?_bool, AVal.data?_d, flatD_strs, flatD_ints, flatD_nats, inD_str, inD_int, inD_nat, onSome_some, List.map_cons, List.map_nil, List.cons_append, List.nil_append, List.append_nil, List.replicate_succ, List.replicate_zero, List.getElem?_cons_zero, List.getElem?_cons_succ, Option.bind_some, Option.bind_none, Option.map_some, Option.getD_some, id_eq, List.set_cons_zero, List.set_cons_succ, List.length_cons, List.length_nil, List.take_succ_cons, List.take_zero, List.take_nil, List.idxOf_cons_self, List.length_map, strs?_map, ints?_map, atI_0, atI_1, atI_2, atI_map, srtD_strs, srtD_ints, true_and, and_true, List.all_nil, List.all_cons, Bool.and_self, Bool.and_true, Bool.true_and, List.nodup_nil, nodup1, forall_const, Bool.bne_false, Bool.bne_true, List.isEmpty_nil, Bool.not_true, Bool.not_false, Nat.zero_add, Nat.le_refl, Nat.zero_le, decide_true, decide_false, eq_self, Bool.false_eq_true, Bool.true_eq_false, if_true, if_false, true_implies, Bool.false_and, Bool.and_false, Bool.not_eq_true, Bool.or_false, Bool.or_true, Bool.false_or, Bool.true_or, ixV_seq, ixV_dct, ixV_txt, slV_txt, slV_seq, inV'_dct, inV'_txt, inV'_seq, tup2V_2, tup3V_3, lenV_seq, lenV_dct, lenV_txt, sortV_dct, sortV_seq, gotV_dct, isDctV_dct, lstC_lst, dctC_dK, fzV_r, fzV_d, fzC_fz, fzC_lst, fzC_dK, listC_lst, listC_fz, fzListC_fz, isLstC_lst, isLstC_fz, isLstC_nl, viewC_lst, viewC_nl, viewC_nt, viewC_dK, viewC_nd, viewC_fz, tyC_lst, tyC_dK, tyC_fz, tupC_nt, tupC_fz, iterOV_r, iterOV_d, iterOC_lst, iterOC_fz, retC_fz, retC_lst, retC_dK, retC_pool, one_1, two_2, ren_r, ren_d, ren_s, frzC_lst, frzC_dK, frzC_fz, dataOf_d, dataOf_r, flat_lst, flat_dK, flat_pool, flat_fz, key?_int, key?_str, tyN_list, tyN_int, tyN_bool, tyN_str, tyN_tuple, tyN_dictD, tyN_none, flatD_int, flatD_str, eqDT, dictN, clearD, iterT, tupL_tup, dctOf_d, dctOf_r, dkC_dK, dkC_dl, dkC_fz, dctD_dictD, keysOf_dictD, forDA, forDV_d, forDV_r, forDC_dK, viewC_dl, okG, DA.unl, iterD, keysV_d, forHA, iterH, ihV_d, ihV_r, ihC_lst, ihC_fz, DA.okN, pass_lst, pass_dK, pass_pool, pass_fz, pass_tr, flat_tr, flat_gone, cellD_lst, cellD_dK, cellD_fz, cellD_tr, listC_tr, listOf_a, leafL_l, isLstC_tr, isLst_a, viewC_tr, viewT_l, viewT_t, viewT_d, view_a, nodeAt_a, nodeAt_r, tyC_tr, tyOf_a, kdTy_lst, kdTy_tup, kdTy_dct, ren_a, addA_a, resO_t, resO_p, retC_tr, retC_nt, parts, newsOf, partN, resU, backs, backN, callU, two2, dspT, appendT, clearT, extendT, putL, putLV, putLC, putT, onT, treeAt, treeC, fzT, fzTV, fzTC, bodyT0, insertA, revN, mulX_int, mulX_str, mulX_lst, mulX_r, grabs, grab, grabC, asT, asTC, mvL, mvS_r, mvS_d, mvS_a, mvA_r, mvA_a, mvA_d, mvA_s, gone_gone, gone_fz, gone_tr, gone_lst, at_nil, at_cons, put_nil, put_cons, Option.map_none, tupR, listR1, iterOV_a, leafs_map, nodeK, nilTT, emptyV_r, emptyC_l, emptyC_t, isNT, isBT, noneV_none, noneV_list, noneV_r, tcatA, tslA, tslHi, tslLo, tupD_t, listDN_V, listDV_dct, sortedDN_1, iterKC, iterKC_r, keysC_dK, leST, lenSetA, srtVN_V, srtVV_dct, dictDN_V, dictDV_dct, txtVals_dkv, datKV_dkv, mulSA_str, mulSA_list, reprXA, dat?_d, stripCA, dictEnumN, makeO, methF, methO, attrA, objAt, objN_o, kidsAt, valT_d, valT_nd, valT_k, setFA, setO_none, setO_some, bitsA, augN, dispA, iterP, forPA, pkI, pkV, pkF, dcAt, dcN_k, viewT_k, zip_kids, zip_kv, dctK, dispTT, slLH, putN, tupleA, iterTx, bodyTI, retI, AVal.isD, getTT, putTO, dispTO, sortLRN, inTup, sortedTN_1, tupD_t, bodyT1, freshA, freshW, dispIO, dnAt, dnN, asA, seq_set, seq_drop, seq_asg, seq_callU, seq_putS, seq_putL, seq_for, seq_next, seq_aug, seq_seq, seq_forD, seq_forH]
local macro_rules
  | `(tactic| simp_arith! [$ls,*] $[$loc]?) => do
    let xs ← (("bodyT retA boolA nilT frzA ownA lcN iterL ioT iterE iterR1 iterR2 varA nameG opT opA opN cstA mtL mtL0 consL nilL setA dropA forA bltA bltN asgA ifA nextA retN andA orA notA valA andV orV notV ifV tupA lstN putS augS callF callO callW intOp intOp0 intT subA modA fdivA leT gtT geT eqT catN repN chainT negA joinA ssetN slHi slLo slHiN slLoN slN listN sumA minA maxA isiT appendA extendA removeA popA popAtA clearA countA newD retD neverA yesA lcStep refsOf subC putC datas wipeA ksD roomD houseD retP_d retP_rE addA_int addA_str addA_lst addA_r mulA_int mulA_lst mulA_r ltT_str ltT_int ixA_V slA_V inT_V tup2G_V tup3G_V lenA_V sortedN_V getA2_V isDct_V onLst_r onDct_r intA_int intA_bool fzA_V resF_f resF_n resO_f resO_n listOf_r listOf_d fzList_r fzList_d isLst_r isLst_d view_r view_d viewD_list viewD_tuple viewD_str viewD_dictD tyOf_r tyOf_d tupOf_r tupOf_d tupOf_dl tupC_lst tupC_fzl scrLen_0 iterO_V eqOk_int eqOk_str eqOk_bool eqv_int eqv_str eqv_bool kb_ll kb_ii kb_ib kb_bb kb_bi kb_ss kb_tt kb_dd AVal.int?_int AVal.str?_str AVal.bool?_bool AVal.data?_d flatD_strs flatD_ints flatD_nats inD_str inD_int inD_nat onSome_some List.map_cons List.map_nil List.cons_append List.nil_append List.append_nil List.replicate_succ List.replicate_zero List.getElem?_cons_zero List.getElem?_cons_succ Option.bind_some Option.bind_none Option.map_some Option.getD_some id_eq List.set_cons_zero List.set_cons_succ List.length_cons List.length_nil List.take_succ_cons List.take_zero List.take_nil List.idxOf_cons_self List.length_map strs?_map ints?_map atI_0 atI_1 atI_2 atI_map srtD_strs srtD_ints true_and and_true List.all_nil List.all_cons Bool.and_self Bool.and_true Bool.true_and List.nodup_nil nodup1 forall_const Bool.bne_false Bool.bne_true List.isEmpty_nil Bool.not_true Bool.not_false Nat.zero_add Nat.le_refl Nat.zero_le decide_true decide_false eq_self Bool.false_eq_true Bool.true_eq_false if_true if_false true_implies Bool.false_and Bool.and_false Bool.not_eq_true Bool.or_false Bool.or_true Bool.false_or Bool.true_or ixV_seq ixV_dct ixV_txt slV_txt slV_seq inV'_dct inV'_txt inV'_seq tup2V_2 tup3V_3 lenV_seq lenV_dct lenV_txt sortV_dct sortV_seq gotV_dct isDctV_dct lstC_lst dctC_dK fzV_r fzV_d fzC_fz fzC_lst fzC_dK listC_lst listC_fz fzListC_fz isLstC_lst isLstC_fz isLstC_nl viewC_lst viewC_nl viewC_nt viewC_dK viewC_nd viewC_fz tyC_lst tyC_dK tyC_fz tupC_nt tupC_fz iterOV_r iterOV_d iterOC_lst iterOC_fz retC_fz retC_lst retC_dK retC_pool one_1 two_2 ren_r ren_d ren_s frzC_lst frzC_dK frzC_fz dataOf_d dataOf_r flat_lst flat_dK flat_pool flat_fz key?_int key?_str tyN_list tyN_int tyN_bool tyN_str tyN_tuple tyN_dictD tyN_none flatD_int flatD_str eqDT dictN clearD iterT tupL_tup dctOf_d dctOf_r dkC_dK dkC_dl dkC_fz dctD_dictD keysOf_dictD forDA forDV_d forDV_r forDC_dK viewC_dl okG DA.unl iterD keysV_d forHA iterH ihV_d ihV_r ihC_lst ihC_fz DA.okN pass_lst pass_dK pass_pool pass_fz pass_tr flat_tr flat_gone cellD_lst cellD_dK cellD_fz cellD_tr listC_tr listOf_a leafL_l isLstC_tr isLst_a viewC_tr viewT_l viewT_t viewT_d view_a nodeAt_a nodeAt_r tyC_tr tyOf_a kdTy_lst kdTy_tup kdTy_dct ren_a addA_a resO_t resO_p retC_tr retC_nt parts newsOf partN resU backs backN callU two2 dspT appendT clearT extendT putL putLV putLC putT onT treeAt treeC fzT fzTV fzTC bodyT0 insertA revN mulX_int mulX_str mulX_lst mulX_r grabs grab grabC asT asTC mvL mvS_r mvS_d mvS_a mvA_r mvA_a mvA_d mvA_s gone_gone gone_fz gone_tr gone_lst at_nil at_cons put_nil put_cons Option.map_none tupR listR1 iterOV_a leafs_map nodeK nilTT emptyV_r emptyC_l emptyC_t isNT isBT noneV_none noneV_list noneV_r tcatA tslA tslHi tslLo tupD_t listDN_V listDV_dct sortedDN_1 iterKC iterKC_r keysC_dK leST lenSetA srtVN_V srtVV_dct dictDN_V dictDV_dct txtVals_dkv datKV_dkv mulSA_str mulSA_list reprXA dat?_d stripCA dictEnumN makeO methF methO attrA objAt objN_o kidsAt valT_d valT_nd valT_k setFA setO_none setO_some bitsA augN dispA iterP forPA pkI pkV pkF dcAt dcN_k viewT_k zip_kids zip_kv dctK dispTT slLH putN tupleA iterTx bodyTI retI AVal.isD getTT putTO dispTO sortLRN inTup sortedTN_1 tupD_t bodyT1 freshA freshW dispIO dnAt dnN asA".splitOn ).toArray.map fun n => n.toName).mapM fun n => `(Lean.Parser.Tactic.simpLemma| $(Lean.mkIdent n):term)
    let ys : Lean.TSyntaxArray [`Lean.Parser.Tactic.simpStar, `Lean.Parser.Tactic.simpErase, `Lean.Parser.Tactic.simpLemma] := ls.getElems ++ xs.map fun x => ⟨x⟩
    `(tactic| simp only [$ys,*] $[$loc]?)
local macro_rules
  | `(tactic| simp_arith [$ls,*] $[$loc]?) => `(tactic| simp_arith! [$ls,*, seqA] $[$loc]?)
local macro_rules
  | `(tactic| simp_all_arith! [$ls,*]) => do
    let xs ← (("seq_set seq_drop seq_asg seq_callU seq_putS seq_putL seq_for seq_next seq_aug seq_seq seq_forD seq_forH".splitOn ).toArray.map fun n => n.toName).mapM fun n => `(Lean.Parser.Tactic.simpLemma| $(Lean.mkIdent n):term)
    let ys : Lean.TSyntaxArray [`Lean.Parser.Tactic.simpStar, `Lean.Parser.Tactic.simpErase, `Lean.Parser.Tactic.simpLemma] := (ls.getElems.map fun x => ⟨x.raw⟩) ++ xs.map fun x => ⟨x.raw⟩
    `(tactic| simp_arith! [$ys,*])
local macro_rules
  | `(tactic| simp_all_arith [$ls,*]) => `(tactic| simp_arith! [$ls,*, seqA, Nat.reduceAdd, Nat.reduceEqDiff, Nat.reduceSub, Nat.reduceLT, false_and, and_false, reduceCtorEq, Nat.reduceLeDiff])
/-! part p_nats -/
def natsD (order : List Nat) : PyData := .list (order.map fun i : Nat => .int (i : Int))
theorem intsD_natE (n : Nat) : intsD 0 (n : Int) = (List.range n).map fun k : Nat => PyData.int (k : Int) := by
  unfold intsD
  rw [show ((n : Int) - 0).toNat = n by omega]
  refine List.map_congr_left fun k _ => ?_
  rw [Int.zero_add]
/-! part p_misc -/
theorem maxmin (n : Nat) (c : Nat) (hc : 1 ≤ c) : ∃ J : Nat, max 1 (min (c : Int) (n : Int)) = (J : Int) ∧ J ≤ c := by
  refine ⟨max 1 (min c n), ?_, by omega⟩
  omega
theorem CanGo.take {h : House} {order : List Nat} (c : CanGo h order) (n : Nat) : CanGo h (order.take n) := by
  refine ⟨c.nd.sublist (List.take_sublist _ _), fun i k hk => ?_⟩
  have hi := (List.getElem?_eq_some_iff.mp hk).1
  rw [List.length_take] at hi
  rw [List.getElem?_take_of_lt (by omega)] at hk
  obtain ⟨r, hr, hm⟩ := c.step i k hk
  exact ⟨r, hr, by rw [List.take_take, Nat.min_eq_left (by omega)]; exact hm⟩
theorem lay_ordr (ns : List Nat) : Lay 1 (natsD ns) := lay_list fun d m => by
  obtain ⟨k, hk, rfl⟩ := List.mem_map.mp m
  exact lay_int _
theorem lay_self {n : Nat} {d : PyData} (h : Lay n d) : PyData.eqv d d = true := SeqAt.eqv_refl d h.1
theorem eqOk_lay {n m : Nat} {d e : PyData} (h1 : Lay n d) (h2 : Lay m e) (hn : n ≤ 64 := by decide) (hm : m ≤ 64 := by decide) : eqOk d e := by
  have a := h1.shaped hn
  have b := h2.shaped hm
  unfold eqOk
  split <;> first | trivial | exact ⟨a, b⟩
theorem iteE {x : Bool} {a b : Prop} [Decidable ((!x) = true)] (h : x = true) (hb : b) : (if (!x) = true then a else b) := by subst h; rw [if_neg (by simp)]; exact hb
theorem iteB {x : Bool} {a b : Prop} (h1 : x = true → a) (h2 : x = false → b) : (if x = true then a else b) := by
  cases x with
  | true => exact h1 rfl
  | false => exact h2 rfl
/-! part o_cd -/
/-! dicts that count kinds -/
abbrev KVs := List (Key × PyData)
structure Cd (al : List Str) (kvs : KVs) (f : Str → Int) : Prop where
  txt : ∀ p ∈ kvs, ∃ k ∈ al, p = (.inr k, .int (f k))
  all : ∀ k, f k ≠ 0 → Sum.inr k ∈ kvs.map (·.1)
  nd : (kvs.map (·.1)).Nodup
theorem getA_dk (kvs : KVs) (k : Key) : getA (dkv kvs) k = (getA kvs k).map .d := by
  unfold getA dkv
  rw [List.find?_map]
  cases h : kvs.find? ((fun kv : Key × AVal => decide (kv.1 = k)) ∘ fun p => (p.1, AVal.d p.2)) with
  | none =>
    have h' : kvs.find? (fun kv : Key × PyData => decide (kv.1 = k)) = none := h
    rw [h']; rfl
  | some p =>
    have h' : kvs.find? (fun kv : Key × PyData => decide (kv.1 = k)) = some p := h
    rw [h']; rfl
theorem getA_in {kvs : KVs} {k : Key} {d : PyData} (h : getA kvs k = some d) : (k, d) ∈ kvs := by
  unfold getA at h
  cases hf : kvs.find? (fun kv => decide (kv.1 = k)) with
  | none => rw [hf] at h; cases h
  | some p =>
    rw [hf] at h
    cases h
    have h1 := List.find?_some hf
    have h2 := List.mem_of_find?_eq_some hf
    have : p.1 = k := of_decide_eq_true h1
    rw [← this]; exact h2
theorem getA_none {kvs : KVs} {k : Key} (h : getA kvs k = none) : k ∉ kvs.map (·.1) := fun z => by
  obtain ⟨p, hp, e⟩ := List.mem_map.mp z
  unfold getA at h
  cases hf : kvs.find? (fun kv => decide (kv.1 = k)) with
  | none =>
    have := List.find?_eq_none.mp hf p hp
    simp [e] at this
  | some p => rw [hf] at h; cases h
theorem getA_key {kvs : KVs} {k : Key} (h : k ∈ kvs.map (·.1)) : ∃ d, getA kvs k = some d := by
  cases e : getA kvs k with
  | none => exact absurd h (getA_none e)
  | some d => exact ⟨d, rfl⟩
theorem putA_keys (kvs : KVs) (k : Key) (v : PyData) : (k ∈ kvs.map (·.1) ∧ (putA kvs k v).map (·.1) = kvs.map (·.1)) ∨ (k ∉ kvs.map (·.1) ∧ (putA kvs k v).map (·.1) = kvs.map (·.1) ++ [k]) := by
  unfold putA
  by_cases h : k ∈ kvs.map (·.1)
  · refine .inl ⟨h, ?_⟩
    obtain ⟨p, hp, e⟩ := List.mem_map.mp h
    rw [if_pos (List.any_eq_true.mpr ⟨p, hp, decide_eq_true e⟩), List.map_map]
    refine List.map_congr_left fun p _ => ?_
    show (if p.1 = k then (p.1, v) else p).1 = p.1
    split <;> rfl
  · refine .inr ⟨h, ?_⟩
    rw [if_neg (fun z => by
      obtain ⟨p, hp, e⟩ := List.any_eq_true.mp z
      exact h (List.mem_map.mpr ⟨p, hp, of_decide_eq_true e⟩)), List.map_append]; rfl
theorem putA_mem {kvs : KVs} {k : Key} {v : PyData} {p : Key × PyData} (h : p ∈ putA kvs k v) : (p.1 = k ∧ p.2 = v) ∨ (p.1 ≠ k ∧ p ∈ kvs) := by
  unfold putA at h
  split at h
  · obtain ⟨q, hq, e⟩ := List.mem_map.mp h
    split at e
    · rename_i e2; subst e; exact .inl ⟨e2, rfl⟩
    · rename_i e2; subst e; exact .inr ⟨e2, hq⟩
  · rename_i hn
    rcases List.mem_append.mp h with h | h
    · refine .inr ⟨fun e => hn (List.any_eq_true.mpr ⟨p, h, decide_eq_true e⟩), h⟩
    · rw [List.mem_singleton] at h; subst h; exact .inl ⟨rfl, rfl⟩
theorem putA_nodup {kvs : KVs} (k : Key) (v : PyData) (h : (kvs.map (·.1)).Nodup) : ((putA kvs k v).map (·.1)).Nodup := by
  rcases putA_keys kvs k v with ⟨_, e⟩ | ⟨hn, e⟩
  · rw [e]; exact h
  · rw [e]
    exact List.nodup_append.mpr ⟨h, by simp, fun a ha b hb => by rw [List.mem_singleton] at hb; subst hb; exact fun e => hn (e ▸ ha)⟩
theorem putA_has (kvs : KVs) (k : Key) (v : PyData) : k ∈ (putA kvs k v).map (·.1) := by
  rcases putA_keys kvs k v with ⟨h, e⟩ | ⟨_, e⟩
  · rw [e]; exact h
  · rw [e]; exact List.mem_append_right _ (List.mem_singleton.mpr rfl)
theorem putA_keeps {kvs : KVs} {k j : Key} {v : PyData} (h : j ∈ kvs.map (·.1)) : j ∈ (putA kvs k v).map (·.1) := by
  rcases putA_keys kvs k v with ⟨_, e⟩ | ⟨_, e⟩
  · rw [e]; exact h
  · rw [e]; exact List.mem_append_left _ h
section
variable {al : List Str} {kvs : KVs} {f g : Str → Int} {k : Str}
theorem Cd.nil : Cd al [] (fun _ => 0) := ⟨(fun _ h => nomatch h), fun k h => absurd rfl h, List.nodup_nil⟩
theorem Cd.congr (h : Cd al kvs f) (e : ∀ k, f k = g k) : Cd al kvs g := by
  have : f = g := funext e
  exact this ▸ h
theorem Cd.at (h : Cd al kvs f) (hk : Sum.inr k ∈ kvs.map (·.1)) : getA kvs (.inr k) = some (.int (f k)) := by
  obtain ⟨d, hd⟩ := getA_key hk
  obtain ⟨j, _, e⟩ := h.txt _ (getA_in hd)
  have e1 : (Sum.inr k : Key) = .inr j := congrArg Prod.fst e
  have e2 : d = .int (f j) := congrArg Prod.snd e
  have : k = j := Sum.inr.inj e1
  subst this
  rw [hd, e2]
theorem Cd.get (h : Cd al kvs f) (k : Str) : (getA (dkv kvs) (.inr k)).getD (.d (.int 0)) = .d (.int (f k)) := by
  rw [getA_dk]
  by_cases hk : Sum.inr k ∈ kvs.map (·.1)
  · rw [h.at hk]; rfl
  · have : getA kvs (.inr k) = none := by
      cases e : getA kvs (.inr k) with
      | none => rfl
      | some d => exact absurd (List.mem_map.mpr ⟨(Sum.inr k, d), getA_in e, rfl⟩) hk
    have hz : f k = 0 := Decidable.of_not_not fun z => hk (h.all k z)
    rw [this, hz]; rfl
theorem Cd.put (h : Cd al kvs f) (hk : k ∈ al) (v : Int) : Cd al (putA kvs (.inr k) (.int v)) (fun x => if x = k then v else f x) := by
  refine ⟨fun p hp => ?_, fun x hx => ?_, putA_nodup _ _ h.nd⟩
  · rcases putA_mem hp with ⟨e1, e2⟩ | ⟨e1, hp⟩
    · exact ⟨k, hk, by rw [if_pos rfl, ← e1, ← e2]⟩
    · obtain ⟨j, hj, e⟩ := h.txt p hp
      subst e
      exact ⟨j, hj, by rw [if_neg (fun z => e1 (by rw [z]))]⟩
  · by_cases e : x = k
    · subst e; exact putA_has _ _ _
    · rw [if_neg e] at hx
      exact putA_keeps (h.all x hx)
theorem Cd.len (h : Cd al kvs f) : kvs.length ≤ al.length := by
  have := h.nd.length_le_of_subset (l₂ := al.map Sum.inr) fun x hx => by
    obtain ⟨p, hp, e⟩ := List.mem_map.mp hx
    obtain ⟨k, hk, e2⟩ := h.txt p hp
    subst e2; subst e
    exact List.mem_map.mpr ⟨k, hk, rfl⟩
  simpa using this
theorem counted_use {ks : List Str} {P : RV → List Cell → Prop} (hal : al.length ≤ 100000) (hk : ∀ k ∈ ks, k ∈ al) (q : ∀ kvs, Cd al kvs (fun k => (ks.count k : Int)) → P (.n (.dK kvs)) []) : TT_counted_kinds [.d (ksD ks)] [] P := by
  have szl : 200000 < sizeLine := by decide
  (first | simp_arith [TT_counted_kinds, tt_counted_kinds] | skip)
  refine forW_map PyData.str ks (fun i s => ∃ kvs, Cd al kvs (fun k => ((ks.take i).count k : Int)) ∧ s = ⟨[some (.d (ksD ks)), some (.r 0), none], [.dK kvs]⟩) ⟨[], Cd.nil, rfl⟩ ?_ ?_
  · rintro i x s' N hx ⟨kvs, hc, rfl⟩ hN
    have hl := hc.len
    have hg := hc.get x
    (first | simp_arith [hg] | skip)
    refine ⟨by omega, hN _ ⟨[some (.d (ksD ks)), some (.r 0), none], [.dK (putA kvs (.inr x) (.int (((ks.take i).count x : Int) + 1)))]⟩ (wk_of [] (by simp [SubS, ltO, AVal.lt, ksD]) rfl rfl (by simp)) ⟨_, (hc.put (hk x (List.mem_of_getElem? hx)) _).congr fun k => ?_, rfl⟩⟩
    rw [List.take_add_one, hx, List.count_append]
    show (if k = x then ((ks.take i).count x : Int) + 1 else ((ks.take i).count k : Int)) = (((ks.take i).count k + [x].count k : Nat) : Int)
    by_cases e : k = x
    · subst e; rw [if_pos rfl, List.count_singleton_self]; omega
    · rw [if_neg e, List.count_singleton, if_neg (by simpa using fun z => e z.symm)]; omega
  · rintro s' ⟨kvs, hc, rfl⟩
    (first | simp_arith [onSome_some] | skip)
    exact q kvs (hc.congr fun k => by rw [List.take_length])
end
/-! part o_opn -/
/-! a house by the sets of its opened rooms -/
def opF : List Str := ["locks", "within", "many", "all_rooms", "hands", "goings", "ends"]
theorem lk_locks : lookF "locks" opF = some 0 := by decide
theorem lk_within : lookF "within" opF = some 1 := by decide
theorem lk_many : lookF "many" opF = some 2 := by decide
theorem lk_hands : lookF "hands" opF = some 4 := by decide
theorem lk_hand_at : lookF "hand_at" opF = none := by decide
theorem lk_next_at : lookF "next_at" opF = none := by decide
def opnT (C dx q a1 a2 a3 : Addr) (L W : List PyData) (n : Nat) (hk gk ek : KVs) : Tr := .nd (.obj C dx opF) q [.d (.list L), .d (.list W), .d (.int (n : Int)), .d (.int ((2 ^ n : Nat) - 1 : Int)), dctK a1 hk, dctK a2 gk, dctK a3 ek]
def difL (h : House) (i : Nat) (k : Str) : Int := match h.2[i]? with
  | some r => (r.2.count k : Int) - (r.1.count k : Int)
  | none => 0
/-- the keys in hand where a set of rooms is opened -/
def cntM (h : House) (m : Nat) (k : Str) : Int := (h.1.count k : Int) + ((List.range h.2.length).map fun i => if m.testBit i = true then difL h i k else 0).sum
def freeM (h : House) (m i : Nat) : Bool := !m.testBit i && (match h.2[i]? with
  | some r => r.1.all fun k => decide ((r.1.count k : Int) ≤ cntM h m k)
  | none => false)
/-- the rooms that may be opened next -/
def nextM (h : House) (m : Nat) : List Nat := (List.range h.2.length).filter (freeM h m)
theorem sum_but {f g : Nat → Int} {t : Nat} {d : Int} (h : ∀ i, i ≠ t → f i = g i) (e : f t = g t + d) : ∀ n, ((List.range n).map f).sum = ((List.range n).map g).sum + if t < n then d else 0
  | 0 => by simp
  | n + 1 => by
    have ih := sum_but h e n
    rw [List.range_succ, List.map_append, List.map_append, List.sum_append, List.sum_append, ih]
    simp only [List.map_cons, List.map_nil, List.sum_cons, List.sum_nil]
    by_cases ht : t = n
    · subst ht
      rw [e, if_neg (Nat.lt_irrefl _), if_pos (Nat.lt_succ_self _)]; omega
    · rw [h n (fun z => ht z.symm)]
      by_cases hl : t < n
      · rw [if_pos hl, if_pos (by omega)]; omega
      · rw [if_neg hl, if_neg (by omega)]; omega
theorem bit_top {t m : Nat} (hm : m < 2 ^ t) : (2 ^ t + m).testBit t = true ∧ m.testBit t = false ∧ ∀ i, i ≠ t → (2 ^ t + m).testBit i = m.testBit i := by
  have h0 : m.testBit t = false := Nat.testBit_lt_two_pow hm
  refine ⟨by rw [Nat.testBit_two_pow_add_eq, h0]; rfl, h0, fun i hi => ?_⟩
  by_cases hl : i < t
  · exact Nat.testBit_two_pow_add_gt hl m
  · have hp : 2 ^ (t + 1) ≤ 2 ^ i := Nat.pow_le_pow_right (by decide) (by omega)
    have h2 : 2 ^ (t + 1) = 2 ^ t * 2 := Nat.pow_succ ..
    rw [Nat.testBit_lt_two_pow (by omega), Nat.testBit_lt_two_pow (by omega)]
theorem cntM_top {h : House} {t m : Nat} (hm : m < 2 ^ t) (ht : t < h.2.length) (k : Str) : cntM h (2 ^ t + m) k = cntM h m k + difL h t k := by
  obtain ⟨b1, b2, b3⟩ := bit_top hm
  unfold cntM
  rw [sum_but (t := t) (d := difL h t k) (g := fun i => if m.testBit i = true then difL h i k else 0) (fun i hi => by show (if _ then _ else _) = if _ then _ else _; rw [b3 i hi]) (by show (if _ then _ else _) = (if _ then _ else _) + _; rw [b1, b2]; simp), if_pos ht]
  omega
theorem cntM_zero (h : House) (k : Str) : cntM h 0 k = (h.1.count k : Int) := by
  unfold cntM
  have : ((List.range h.2.length).map fun i => if (0 : Nat).testBit i = true then difL h i k else 0).sum = 0 := by
    generalize List.range h.2.length = l
    induction l with
    | nil => rfl
    | cons a l ih => rw [List.map_cons, List.sum_cons, ih, Nat.zero_testBit]; rfl
  rw [this]; omega
/-- what an object of a house holds -/
structure OpOk (al : List Str) (h : House) (lk wk : List KVs) : Prop where
  l1 : lk.length = h.2.length
  l2 : wk.length = h.2.length
  lks : ∀ (i : Nat) (r : Room'), h.2[i]? = some r → ∃ kvs, lk[i]? = some kvs ∧ Cd r.1 kvs fun k => (r.1.count k : Int)
  wks : ∀ (i : Nat) (r : Room'), h.2[i]? = some r → ∃ kvs, wk[i]? = some kvs ∧ Cd r.2 kvs fun k => (r.2.count k : Int)
  sub : ∀ r ∈ h.2, (∀ k ∈ r.1, k ∈ al) ∧ ∀ k ∈ r.2, k ∈ al
structure Hands (al : List Str) (h : House) (hk : KVs) : Prop where
  all : ∀ p ∈ hk, ∃ m kvs, p = (.inl (m : Nat), dictD kvs) ∧ m < 2 ^ h.2.length ∧ Cd al kvs (cntM h m)
  nd : (hk.map (·.1)).Nodup
  zero : (.inl (0 : Nat) : Key) ∈ hk.map (·.1)
theorem keys_len {n : Nat} {hk : KVs} (nd : (hk.map (·.1)).Nodup) (h : ∀ p ∈ hk, ∃ m : Nat, p.1 = .inl (m : Int) ∧ m < 2 ^ n) : hk.length ≤ 2 ^ n := by
  have := nd.length_le_of_subset (l₂ := (List.range (2 ^ n)).map fun m : Nat => (.inl (m : Int) : Key)) fun x hx => by
    obtain ⟨p, hp, e⟩ := List.mem_map.mp hx
    obtain ⟨m, e2, hm⟩ := h p hp
    exact List.mem_map.mpr ⟨m, List.mem_range.mpr hm, by rw [← e, e2]⟩
  simpa using this
theorem Hands.len {al : List Str} {h : House} {hk : KVs} (H : Hands al h hk) : hk.length ≤ 2 ^ h.2.length := keys_len H.nd fun p hp => by
  obtain ⟨m, kvs, e, hm, _⟩ := H.all p hp
  exact ⟨m, by rw [e], hm⟩
theorem pow12 {n : Nat} (h : n ≤ 12) : 2 ^ n ≤ 4096 := Nat.pow_le_pow_right (by decide) h
theorem Hands.at {al : List Str} {h : House} {hk : KVs} {m : Nat} {d : PyData} (H : Hands al h hk) (e : getA hk (.inl (m : Nat)) = some d) : ∃ kvs, d = dictD kvs ∧ Cd al kvs (cntM h m) := by
  obtain ⟨m', kvs, e2, _, hc⟩ := H.all _ (getA_in e)
  have e3 : (.inl (m : Int) : Key) = .inl (m' : Int) := congrArg Prod.fst e2
  have e4 : d = dictD kvs := congrArg Prod.snd e2
  have : m = m' := by have := Sum.inl.inj e3; omega
  subst this
  exact ⟨kvs, e4, hc⟩
theorem Hands.put {al : List Str} {h : House} {hk kvs : KVs} {m : Nat} (H : Hands al h hk) (hm : m < 2 ^ h.2.length) (hc : Cd al kvs (cntM h m)) : Hands al h (putA hk (.inl (m : Nat)) (dictD kvs)) := by
  refine ⟨fun p hp => ?_, putA_nodup _ _ H.nd, putA_keeps H.zero⟩
  rcases putA_mem hp with ⟨e1, e2⟩ | ⟨_, hp⟩
  · exact ⟨m, kvs, by rw [← e1, ← e2], hm, hc⟩
  · exact H.all p hp
structure OpSt (al : List Str) (h : House) (C : Addr) (gk ek : KVs) (t : Tr) : Prop where
  ex : ∃ (dx q a1 a2 a3 : Addr) (lk wk : List KVs) (hk : KVs), t = opnT C dx q a1 a2 a3 (lk.map dictD) (wk.map dictD) h.2.length hk gk ek ∧ OpOk al h lk wk ∧ Hands al h hk
theorem bits_of {m t : Nat} (h1 : 2 ^ t ≤ m) (h2 : m < 2 ^ (t + 1)) : (Builtin.Int.intBits (m : Int) : Nat) = t + 1 := by
  have h0 : m ≠ 0 := by have := Nat.two_pow_pos t; omega
  unfold Builtin.Int.intBits
  rw [if_neg (by simpa using h0), Int.natAbs_natCast, (Nat.log2_eq_iff h0).mpr ⟨h1, h2⟩]
/-! part p_get -/
theorem enumsD_map {α : Type} (f : α → PyData) (xs : List α) : enumsD (xs.map f) = xs.zipIdx.map fun p => .tuple [.int ((p.2 : Nat) : Int), f p.1] := by
  unfold enumsD
  apply List.ext_getElem?
  intro i
  rw [List.getElem?_mapIdx, List.getElem?_map, List.getElem?_map, List.getElem?_zipIdx]
  cases xs[i]? with
  | none => rfl
  | some x => simp
theorem need_house_use {h : House} {P : RV → List Cell → Prop} (gd : GoodHouse h) (q : P (.f .none) []) : tF 1 (pre1 fun d => SzD d ∧ isHouseD d = true) (fn1 fun _ => .none) [.d (houseD h)] [] P := ⟨rfl, [houseD h], rfl, rfl, ⟨_, rfl, szD_house gd, isHouseD_house gd⟩, q⟩
/-! part o_hand -/
theorem cd_keys {al : List Str} {kvs : KVs} {f : Str → Int} (h : Cd al kvs f) : ∃ ks : List Str, kvs.map (·.1) = ks.map Sum.inr ∧ (kvs.map fun p => keyD p.1) = ks.map .str ∧ ks.Nodup ∧ ∀ k ∈ ks, k ∈ al := by
  have : ∃ ks : List Str, kvs.map (·.1) = ks.map Sum.inr ∧ ∀ k ∈ ks, k ∈ al := by
    have ht := h.txt
    clear h
    induction kvs with
    | nil => exact ⟨[], rfl, (fun _ h => nomatch h)⟩
    | cons p r ih =>
      obtain ⟨ks, e, hk⟩ := ih fun q hq => ht q (List.mem_cons_of_mem _ hq)
      obtain ⟨k, hk2, e2⟩ := ht p (List.mem_cons_self ..)
      refine ⟨k :: ks, by rw [List.map_cons, List.map_cons, e, e2], fun x hx => ?_⟩
      rcases List.mem_cons.mp hx with rfl | hx
      · exact hk2
      · exact hk x hx
  obtain ⟨ks, e, hk⟩ := this
  refine ⟨ks, e, ?_, ?_, hk⟩
  · have e2 : (kvs.map fun p => keyD p.1) = (kvs.map (·.1)).map keyD := by rw [List.map_map]; rfl
    rw [e2, e, List.map_map]; rfl
  · have := h.nd
    rw [e] at this
    exact (List.pairwise_map.mp this).imp fun h e => h (congrArg Sum.inr e)
theorem getA_put {kvs : KVs} {k : Key} {v : PyData} : getA (putA kvs k v) k = some v := by
  obtain ⟨d, hd⟩ := getA_key (putA_has kvs k v)
  rcases putA_mem (getA_in hd) with ⟨_, e⟩ | ⟨e, _⟩
  · have e : d = v := e
    rw [hd, e]
  · exact absurd rfl e
theorem Cd.zero {al : List Str} {kvs : KVs} {f : Str → Int} {ks : List Str} (h : Cd al kvs f) (e : kvs.map (·.1) = ks.map Sum.inr) {k : Str} (hk : k ∉ ks) : f k = 0 := Decidable.of_not_not fun z => by
  have := h.all k z
  rw [e] at this
  obtain ⟨j, hj, ej⟩ := List.mem_map.mp this
  exact hk (Sum.inr.inj ej ▸ hj)
theorem Cd.has {al : List Str} {kvs : KVs} {f : Str → Int} {ks : List Str} (h : Cd al kvs f) (e : kvs.map (·.1) = ks.map Sum.inr) {k : Str} (hk : k ∈ ks) : getA (dkv kvs) (.inr k) = some (.d (.int (f k))) := by
  rw [getA_dk, h.at (by rw [e]; exact List.mem_map.mpr ⟨k, hk, rfl⟩)]; rfl
theorem dif_at {h : House} {t : Nat} {r : Room'} (hr : h.2[t]? = some r) (k : Str) : difL h t k = (r.2.count k : Int) - (r.1.count k : Int) := by
  unfold difL
  rw [hr]
theorem hand_at_use {O : OT} {al : List Str} {h : House} {gk ek : KVs} (hal : al.length ≤ 100000) (hn : h.2.length ≤ 12) : ∀ (fu : Nat) {t : Tr} {m : Nat} {P : RV → List Cell → Prop}, OpSt al h O.opened gk ek t → m < 2 ^ fu → m < 2 ^ h.2.length →
    (∀ kvs t', OpSt al h O.opened gk ek t' → Cd al kvs (cntM h m) → P (.f (dictD kvs)) [.tr t']) → TT_Opened_hand_at O (fu + 1) [.r 0, .d (.int (m : Nat))] [.tr t] P := by
  have szl : 200000 < sizeLine := by decide
  intro fu
  induction fu with
  | zero =>
    intro t m P st hm hmn q
    obtain ⟨dx, q0, a1, a2, a3, lk, wk, hk, rfl, ok, ha⟩ := st.ex
    have hm0 : m = 0 := by simpa using hm
    subst hm0
    obtain ⟨d, hd⟩ := getA_key ha.zero
    obtain ⟨kvs, rfl, hc⟩ := ha.at hd
    show bodyT 3 (tt_Opened_hand_at O (TT_Opened_hand_at O 0)) _ _ _
    (first | simp_arith [tt_Opened_hand_at, opnT, lk_hands, getA_dk, hd] | skip)
    exact q kvs _ st hc
  | succ fu ih =>
    intro t m P st hm hmn q
    obtain ⟨dx, q0, a1, a2, a3, lk, wk, hk, rfl, ok, ha⟩ := st.ex
    show bodyT 3 (tt_Opened_hand_at O (TT_Opened_hand_at O (fu + 1))) _ _ _
    cases hd : getA hk (.inl (m : Nat)) with
    | some d =>
      obtain ⟨kvs, rfl, hc⟩ := ha.at hd
      (first | simp_arith [tt_Opened_hand_at, opnT, lk_hands, getA_dk, hd] | skip)
      exact q kvs _ st hc
    | none =>
      have hm0 : m ≠ 0 := fun z => by subst z; exact getA_none hd ha.zero
      obtain ⟨t, m', rfl, hm'⟩ : ∃ t m', m = 2 ^ t + m' ∧ m' < 2 ^ t := by
        refine ⟨m.log2, m - 2 ^ m.log2, ?_, ?_⟩
        · have := Nat.log2_self_le hm0; omega
        · have h1 := Nat.log2_self_le hm0
          have h2 := Nat.lt_log2_self (n := m)
          rw [Nat.pow_succ] at h2; omega
      have hb := bits_of (m := 2 ^ t + m') (t := t) (by omega) (by rw [Nat.pow_succ]; omega)
      have hbi : ((Builtin.Int.intBits ((2 ^ t + m' : Nat) : Int) : Nat) : Int) - 1 = (t : Int) := by rw [hb]; omega
      have htn : t < h.2.length := (Nat.pow_lt_pow_iff_right (by decide)).mp (Nat.lt_of_le_of_lt (Nat.le_add_right _ _) hmn)
      have htf : t ≤ fu := by
        have := (Nat.pow_lt_pow_iff_right (a := 2) (by decide)).mp (Nat.lt_of_le_of_lt (Nat.le_add_right (2 ^ t) m') hm)
        omega
      (first | simp_arith [tt_Opened_hand_at, opnT, lk_hands, lk_hand_at, getA_dk, hd, hbi, shlA, CPow] | skip)
      have ht12 : t ≤ 12 := by omega
      refine ⟨⟨by omega, by omega, by decide⟩, ?_⟩
      rw [show ((2 ^ t + m' : Nat) : Int) - 1 * 2 ^ Int.toNat (t : Int) = ((m' : Nat) : Int) by
        rw [Int.toNat_natCast, Int.one_mul]
        push_cast
        omega]
      refine ih st (Nat.lt_of_lt_of_le hm' (Nat.pow_le_pow_right (by decide) htf)) (by omega) fun kvs0 t1 st1 hc0 => ?_
      obtain ⟨dx, q0, a1, a2, a3, lk, wk, hk, rfl, ok, ha⟩ := st1.ex
      (first | simp_arith [tt_Opened_hand_at, opnT, lk_hands, lk_hand_at, lk_locks, getA_dk] | skip)
      have hr : h.2[t]? = some h.2[t] := List.getElem?_eq_getElem htn
      obtain ⟨kl, hkl, hcl⟩ := ok.lks t _ hr
      obtain ⟨kw, hkw, hcw⟩ := ok.wks t _ hr
      obtain ⟨ls, el, el2, ndl, hal1⟩ := cd_keys hcl
      obtain ⟨ws, ew, ew2, ndw, hal2⟩ := cd_keys hcw
      have hal1 : ∀ k ∈ ls, k ∈ al := fun k hk => (ok.sub _ (List.getElem_mem htn)).1 k (hal1 k hk)
      have hal2 : ∀ k ∈ ws, k ∈ al := fun k hk => (ok.sub _ (List.getElem_mem htn)).2 k (hal2 k hk)
      (first | simp_arith [atI_natE, List.getElem?_map, hkl, keysOf_dictD, el2] | skip)
      refine forW_map PyData.str ls (fun i s => ∃ kvs, Cd al kvs (fun k => if k ∈ ls.take i then cntM h m' k - (h.2[t].1.count k : Int) else cntM h m' k) ∧ s = ⟨[some (.r 0), some (.d (.int ((2 ^ t + m' : Nat) : Int))), some (.d (.int (t : Int))), some (.r 1), none], [.tr (opnT O.opened dx q0 a1 a2 a3 (lk.map dictD) (wk.map dictD) h.2.length hk gk ek), .dK kvs]⟩) ⟨kvs0, hc0.congr fun k => by rw [List.take_zero, if_neg (fun z => nomatch z)], rfl⟩ ?_ ?_
      · rintro i x s' N hx ⟨kvs, hc, rfl⟩ hN
        have hxl := List.mem_of_getElem? hx
        have hg := hc.get x
        have hl := hc.len
        have hnx : x ∉ ls.take i := fun z => by
          obtain ⟨j, hj⟩ := List.mem_iff_getElem?.mp z
          have hjl := (List.getElem?_eq_some_iff.mp hj).1
          rw [List.length_take] at hjl
          rw [List.getElem?_take_of_lt (by omega)] at hj
          have := (List.getElem?_inj (List.getElem?_eq_some_iff.mp hj).1 ndl).mp (hj.trans hx.symm)
          omega
        (first | simp_arith [opnT, lk_locks, atI_natE, List.getElem?_map, hkl, hcl.has el hxl, hg, if_neg hnx] | skip)
        refine ⟨by omega, hN _ ⟨[some (.r 0), some (.d (.int ((2 ^ t + m' : Nat) : Int))), some (.d (.int (t : Int))), some (.r 1), none], [.tr (opnT O.opened dx q0 a1 a2 a3 (lk.map dictD) (wk.map dictD) h.2.length hk gk ek), .dK (putA kvs (.inr x) (.int (cntM h m' x - (h.2[t].1.count x : Int))))]⟩ (wk_of [] (by simp [SubS, ltO, AVal.lt, ksD]) rfl rfl (by simp)) ⟨_, (hc.put (hal1 x hxl) _).congr fun k => ?_, rfl⟩⟩
        rw [List.take_add_one, hx, Option.toList_some]
        by_cases e : k = x
        · subst e
          rw [if_pos rfl, if_pos (List.mem_append_right _ (List.mem_singleton.mpr rfl))]
        · rw [if_neg e]
          by_cases z : k ∈ ls.take i
          · rw [if_pos z, if_pos (List.mem_append_left _ z)]
          · rw [if_neg z, if_neg (fun y => (List.mem_append.mp y).elim z fun y => e (List.mem_singleton.mp y))]
      · rintro s' ⟨kvs1, hc1, rfl⟩
        rw [List.take_length] at hc1
        (first | simp_arith [opnT, lk_within, atI_natE, List.getElem?_map, hkw, keysOf_dictD, ew2] | skip)
        refine forW_map PyData.str ws (fun i s => ∃ kvs, Cd al kvs (fun k => (cntM h m' k - (h.2[t].1.count k : Int)) + if k ∈ ws.take i then (h.2[t].2.count k : Int) else 0) ∧ s = ⟨[some (.r 0), some (.d (.int ((2 ^ t + m' : Nat) : Int))), some (.d (.int (t : Int))), some (.r 1), none], [.tr (opnT O.opened dx q0 a1 a2 a3 (lk.map dictD) (wk.map dictD) h.2.length hk gk ek), .dK kvs]⟩) ⟨kvs1, hc1.congr fun k => ?_, rfl⟩ ?_ ?_
        · rw [List.take_zero, if_neg (show ¬ k ∈ ([] : List Str) from fun z => nomatch z)]
          by_cases z : k ∈ ls
          · rw [if_pos z]; omega
          · have := hcl.zero el z
            rw [if_neg z]; omega
        · rintro i x s' N hx ⟨kvs, hc, rfl⟩ hN
          have hxl := List.mem_of_getElem? hx
          have hg := hc.get x
          have hl := hc.len
          have hnx : x ∉ ws.take i := fun z => by
            obtain ⟨j, hj⟩ := List.mem_iff_getElem?.mp z
            have hjl := (List.getElem?_eq_some_iff.mp hj).1
            rw [List.length_take] at hjl
            rw [List.getElem?_take_of_lt (by omega)] at hj
            have := (List.getElem?_inj (List.getElem?_eq_some_iff.mp hj).1 ndw).mp (hj.trans hx.symm)
            omega
          (first | simp_arith [opnT, lk_within, atI_natE, List.getElem?_map, hkw, hcw.has ew hxl, hg, if_neg hnx] | skip)
          refine ⟨by omega, hN _ ⟨[some (.r 0), some (.d (.int ((2 ^ t + m' : Nat) : Int))), some (.d (.int (t : Int))), some (.r 1), none], [.tr (opnT O.opened dx q0 a1 a2 a3 (lk.map dictD) (wk.map dictD) h.2.length hk gk ek), .dK (putA kvs (.inr x) (.int (cntM h m' x - (h.2[t].1.count x : Int) + 0 + (h.2[t].2.count x : Int))))]⟩ (wk_of [] (by simp [SubS, ltO, AVal.lt, ksD]) rfl rfl (by simp)) ⟨_, (hc.put (hal2 x hxl) _).congr fun k => ?_, rfl⟩⟩
          rw [List.take_add_one, hx, Option.toList_some]
          by_cases e : k = x
          · subst e
            rw [if_pos rfl, if_pos (List.mem_append_right _ (List.mem_singleton.mpr rfl))]; omega
          · rw [if_neg e]
            by_cases z : k ∈ ws.take i
            · rw [if_pos z, if_pos (List.mem_append_left _ z)]
            · rw [if_neg z, if_neg (fun y => (List.mem_append.mp y).elim z fun y => e (List.mem_singleton.mp y))]
        · rintro s' ⟨kvs2, hc2, rfl⟩
          rw [List.take_length] at hc2
          have hc3 : Cd al kvs2 (cntM h (2 ^ t + m')) := hc2.congr fun k => by
            rw [cntM_top hm' htn, dif_at hr]
            by_cases z : k ∈ ws
            · rw [if_pos z]; omega
            · have := hcw.zero ew z
              rw [if_neg z]; omega
          have hl3 := ha.len
          have hp := pow12 hn
          (first | simp_arith [opnT, lk_hands, getA_dk, getA_put] | skip)
          exact ⟨by omega, q kvs2 _ ⟨dx, q0, a1, a2, a3, lk, wk, _, rfl, ok, ha.put hmn hc3⟩ hc3⟩
/-! part o_next -/
theorem bit_and1 (m k : Nat) : decide (Builtin.bitAnd ((m : Int) / 2 ^ Int.toNat (k : Int)) 1 = 0) = !m.testBit k := by
  have e : (m : Int) / 2 ^ Int.toNat (k : Int) = ((m / 2 ^ k : Nat) : Int) := by
    rw [Int.toNat_natCast]; push_cast; rfl
  rw [e, PyProof.Rows.bitAnd_m1, Nat.testBit_eq_decide_div_mod_eq]
  rcases Nat.mod_two_eq_zero_or_one (m / 2 ^ k) with h | h
  · rw [h, decide_eq_true (by omega)]; rfl
  · rw [h, decide_eq_false (by omega)]; rfl
theorem next_at_use {O : OT} {al : List Str} {h : House} {gk ek : KVs} {t : Tr} {m : Nat} {P : RV → List Cell → Prop} (hal : al.length ≤ 100000) (hn : h.2.length ≤ 12) (st : OpSt al h O.opened gk ek t) (hm : m < 2 ^ h.2.length)
    (q : ∀ t', OpSt al h O.opened gk ek t' → P (.n (.lst ((nextM h m).map fun k : Nat => .int (k : Int)))) [.tr t']) : TT_Opened_next_at O [.r 0, .d (.int (m : Nat))] [.tr t] P := by
  have szl : 200000 < sizeLine := by decide
  have hp := pow12 hn
  obtain ⟨dx, q0, a1, a2, a3, lk, wk, hk, rfl, ok, ha⟩ := st.ex
  (first | simp_arith [TT_Opened_next_at, tt_Opened_next_at, opnT, lk_hand_at] | skip)
  refine hand_at_use hal hn 13 st (by omega) hm fun kvs t1 st1 hc => ?_
  obtain ⟨dx, q0, a1, a2, a3, lk, wk, hk, rfl, ok, ha⟩ := st1.ex
  (first | simp_arith [opnT, lk_many] | skip)
  refine ⟨by omega, by omega, ?_⟩
  rw [intsD_natE]
  refine forW_map (fun k : Nat => PyData.int (k : Int)) (List.range h.2.length) (fun i s => s = ⟨[some (.r 0), some (.d (.int (m : Int))), some (.d (dictD kvs)), some (.r 1), none, none, none], [.tr (opnT O.opened dx q0 a1 a2 a3 (lk.map dictD) (wk.map dictD) h.2.length hk gk ek), .lst (((List.range i).filter (freeM h m)).map fun k : Nat => .int (k : Int))]⟩) rfl ?_ ?_
  · rintro i x s' N hx rfl hN
    have hi : i < h.2.length := by have := (List.getElem?_eq_some_iff.mp hx).1; simpa using this
    have hxi : x = i := by rw [List.getElem?_range hi] at hx; cases hx; rfl
    subst hxi
    have hr : h.2[x]? = some h.2[x] := List.getElem?_eq_getElem hi
    obtain ⟨kl, hkl, hcl⟩ := ok.lks x _ hr
    obtain ⟨ls, el, el2, ndl, hal1⟩ := cd_keys hcl
    have hfil : (List.range (x + 1)).filter (freeM h m) = (List.range x).filter (freeM h m) ++ if freeM h m x = true then [x] else [] := by
      rw [List.range_succ, List.filter_append]
      congr 1
      rw [List.filter_cons]
      split <;> rfl
    have hfr : freeM h m x = (!m.testBit x && h.2[x].1.all fun k => decide ((h.2[x].1.count k : Int) ≤ cntM h m k)) := by unfold freeM; rw [hr]
    have hlen := List.length_filter_le (freeM h m) (List.range x)
    rw [List.length_range] at hlen
    have hba := bit_and1 m x
    (first | simp_arith [opnT, shrA, bandA, hba, lk_locks, atI_natE, List.getElem?_map, hkl, keysOf_dictD, el2] | skip)
    cases hb : m.testBit x with
    | true =>
      (first | simp_arith [onSome_some] | skip)
      refine ⟨by omega, hN _ ⟨[some (.r 0), some (.d (.int (m : Int))), some (.d (dictD kvs)), some (.r 1), none, none, none], [.tr (opnT O.opened dx q0 a1 a2 a3 (lk.map dictD) (wk.map dictD) h.2.length hk gk ek), .lst (((List.range x).filter (freeM h m)).map fun k : Nat => .int (k : Int))]⟩ (wk_of [] (by simp [SubS, ltO, AVal.lt]) rfl rfl (by simp)) ?_⟩
      rw [hfil, hfr, hb]
      simp
    | false =>
      have hemp : (ls.filter fun k => decide (cntM h m k < (h.2[x].1.count k : Int))).isEmpty = (h.2[x].1.all fun k => decide ((h.2[x].1.count k : Int) ≤ cntM h m k)) := by
        rw [Bool.eq_iff_iff, List.isEmpty_iff, List.filter_eq_nil_iff, List.all_eq_true]
        constructor
        · intro z k hk
          have hkl2 : k ∈ ls := Decidable.of_not_not fun y => by
            have := hcl.zero el y
            have := List.count_pos_iff.mpr hk
            omega
          have := z k hkl2
          rw [decide_eq_true_eq] at this ⊢
          omega
        · intro z k hk
          have := z k (hal1 k hk)
          rw [decide_eq_true_eq] at this ⊢
          omega
      (first | simp_arith [onSome_some] | skip)
      refine ⟨by omega, ?_⟩
      refine lcW_map trivial PyData.str (fun k => decide (cntM h m k < (h.2[x].1.count k : Int))) PyData.str (fun k hk R1 R2 h1 h2 => ?_) ?_
      · have hg := hc.get k
        (first | simp_arith [opnT, lk_locks, atI_natE, List.getElem?_map, hkl, hcl.has el hk, hg] | skip)
        split
        · exact h1 ‹_›
        · exact h2 (eq_false_of_ne_true ‹_›)
      · rw [List.nil_append, List.isEmpty_map, hemp]
        cases hall : (h.2[x].1.all fun k => decide ((h.2[x].1.count k : Int) ≤ cntM h m k)) with
        | true =>
          (first | simp_arith [onSome_some] | skip)
          refine ⟨by omega, hN _ ⟨[some (.r 0), some (.d (.int (m : Int))), some (.d (dictD kvs)), some (.r 1), none, none, none], [.tr (opnT O.opened dx q0 a1 a2 a3 (lk.map dictD) (wk.map dictD) h.2.length hk gk ek), .lst ((((List.range x).filter (freeM h m)).map fun k : Nat => .int (k : Int)) ++ [.int (x : Int)])]⟩ (wk_of [] (by simp [SubS, ltO, AVal.lt]) rfl rfl (by simp)) ?_⟩
          rw [hfil, hfr, hb, hall]
          simp
        | false =>
          (first | simp_arith [onSome_some] | skip)
          refine hN _ ⟨[some (.r 0), some (.d (.int (m : Int))), some (.d (dictD kvs)), some (.r 1), none, none, none], [.tr (opnT O.opened dx q0 a1 a2 a3 (lk.map dictD) (wk.map dictD) h.2.length hk gk ek), .lst (((List.range x).filter (freeM h m)).map fun k : Nat => .int (k : Int))]⟩ (wk_of [] (by simp [SubS, ltO, AVal.lt]) rfl rfl (by simp)) ?_
          rw [hfil, hfr, hb, hall]
          simp
  · rintro s' rfl
    rw [List.length_range]
    (first | simp_arith [opnT] | skip)
    exact q _ ⟨dx, q0, a1, a2, a3, lk, wk, hk, rfl, ok, ha⟩
/-! part p_lcw -/
theorem lcW_inv {α : Type} {g : TGA} {tt : TTA} {te : TEA} {vs : List Nat} {ok : List Cell → Prop} {sl : List (Option AVal)} {Q : List PyData → List Cell → Prop} (D : α → PyData) (xs : List α) (Iv : Nat → List PyData → List Cell → Prop) {acc : List PyData} {cs : List Cell} (h0 : Iv 0 acc cs) (hok : ∀ i acc cs, Iv i acc cs → ok cs)
    (hs : ∀ i x acc cs R1 R2, xs[i]? = some x → Iv i acc cs → (∀ d cs', Iv (i + 1) (acc ++ [d]) cs' → R1 d cs') → (∀ cs', Iv (i + 1) acc cs' → R2 cs') → lcStep g tt te vs sl cs (D x) R1 R2) (hd : ∀ acc cs, Iv xs.length acc cs → Q acc cs) : lcW g tt te vs ok sl (xs.map D) acc cs Q := by
  have key : ∀ (n i : Nat) (acc : List PyData) (cs : List Cell), xs.length = i + n → Iv i acc cs → lcW g tt te vs ok sl ((xs.drop i).map D) acc cs Q := by
    intro n
    induction n with
    | zero =>
      intro i acc cs hl hi
      rw [List.drop_eq_nil_of_le (by omega)]
      exact ⟨hok _ _ _ hi, hd _ _ (by rw [hl]; exact hi)⟩
    | succ n ih =>
      intro i acc cs hl hi
      have e : xs[i]? = some (xs[i]'(by omega)) := List.getElem?_eq_getElem (by omega)
      rw [drop_get e, List.map_cons]
      exact ⟨hok _ _ _ hi, hs i _ acc cs (fun d cs' => lcW g tt te vs ok sl ((xs.drop (i + 1)).map D) (acc ++ [d]) cs' Q) (fun cs' => lcW g tt te vs ok sl ((xs.drop (i + 1)).map D) acc cs' Q) e hi (fun d cs' h => ih (i + 1) _ _ (by omega) h) (fun cs' h => ih (i + 1) _ _ (by omega) h)⟩
  exact key xs.length 0 acc cs (by omega) h0
/-! part o_init -/
theorem lki1 : lookF "locks" [] = none := rfl
theorem lki2 : lookF "within" ["locks"] = none := by decide
theorem lki3 : lookF "many" ["locks", "within"] = none := by decide
theorem lki4 : lookF "all_rooms" ["locks", "within", "many"] = none := by decide
theorem lki4b : lookF "many" ["locks", "within", "many"] = some 2 := by decide
theorem lki5 : lookF "hands" ["locks", "within", "many", "all_rooms"] = none := by decide
theorem lki6 : lookF "goings" ["locks", "within", "many", "all_rooms", "hands"] = none := by decide
theorem lki7 : lookF "ends" ["locks", "within", "many", "all_rooms", "hands", "goings"] = none := by decide
theorem lcStep_yes' {g : TGA} {te : TEA} {vs : List Nat} {sl : List (Option AVal)} {cs : List Cell} {x : PyData} {R1 : PyData → List Cell → Prop} {R2 R3 : List Cell → Prop} (h : lcStep g yesA te vs sl cs x R1 R3) : lcStep g yesA te vs sl cs x R1 R2 := by
  unfold lcStep yesA at h ⊢
  simp only [if_true] at h ⊢
  exact h
/-- a list of dicts that count kinds, made one by one -/
theorem cdlist_use {α : Type} {g : TGA} {te : TEA} {vs : List Nat} {sl : List (Option AVal)} {cs : List Cell} {Q : List PyData → List Cell → Prop} (D : α → PyData) (rs : List α) (f : α → List Str)
    (hs : ∀ r ∈ rs, ∀ R, (∀ kvs, Cd (f r) kvs (fun k => ((f r).count k : Int)) → R (dictD kvs) cs) → lcStep g yesA te vs sl cs (D r) R (fun _ => False))
    (q : ∀ lk : List KVs, lk.length = rs.length → (∀ (i : Nat) r, rs[i]? = some r → ∃ kvs, lk[i]? = some kvs ∧ Cd (f r) kvs fun k => ((f r).count k : Int)) → Q (lk.map dictD) cs) : lcW g yesA te vs (fun _ => True) sl (rs.map D) [] cs Q := by
  refine lcW_inv D rs (fun i acc cs' => ∃ lk : List KVs, acc = lk.map dictD ∧ cs' = cs ∧ lk.length = i ∧ ∀ (j : Nat) r, j < i → rs[j]? = some r → ∃ kvs, lk[j]? = some kvs ∧ Cd (f r) kvs fun k => ((f r).count k : Int)) ⟨[], rfl, rfl, rfl, fun j r z => absurd z (Nat.not_lt_zero _)⟩ (fun _ _ _ _ => trivial) ?_ ?_
  · rintro i r acc cs' R1 R2 hx ⟨lk, rfl, rfl, hl, ha⟩ hR1 hR2
    refine lcStep_yes' (hs r (List.mem_of_getElem? hx) R1 fun kvs hc => hR1 _ _ ⟨lk ++ [kvs], by rw [List.map_append]; rfl, rfl, by simp [hl], fun j r' hj hr' => ?_⟩)
    by_cases e : j = i
    · subst e
      rw [hx] at hr'
      cases hr'
      exact ⟨kvs, by rw [List.getElem?_append_right (by omega), hl, Nat.sub_self]; rfl, hc⟩
    · obtain ⟨k2, h1, h2⟩ := ha j r' (by omega) hr'
      exact ⟨k2, by rw [List.getElem?_append_left (by have := (List.getElem?_eq_some_iff.mp h1).1; exact this)]; exact h1, h2⟩
  · rintro acc cs' ⟨lk, rfl, rfl, hl, ha⟩
    exact q lk hl fun i r hr => ha i r (by have := (List.getElem?_eq_some_iff.mp hr).1; omega) hr
theorem init_use {O : OT} {al : List Str} {h : House} {dx p : Addr} {P : RV → List Cell → Prop} (hal : al.length ≤ 100000) (gd : ∀ r ∈ h.2, r.1.length ≤ 4) (hn : h.2.length ≤ 12) (hkl : h.1.length ≤ 100000) (hke : ∀ r ∈ h.2, r.2.length ≤ 100000) (hk : ∀ k ∈ h.1, k ∈ al) (hr : ∀ r ∈ h.2, (∀ k ∈ r.1, k ∈ al) ∧ ∀ k ∈ r.2, k ∈ al)
    (q : ∀ t, OpSt al h O.opened [] [] t → P (.f .none) [.tr t]) : TT_Opened_init O [.r 0, .d (houseD h)] [.tr (.nd (.obj O.opened dx []) p [])] P := by
  have szl : 200000 < sizeLine := by decide
  (first | simp_arith [TT_Opened_init, tt_Opened_init, shlA, CPow] | skip)
  refine cdlist_use roomD h.2 (fun r => r.1) (fun r hr R hR => ?_) fun lk hll hlk => ?_
  · have h4 := gd r hr
    (first | simp_arith [onSome_some] | skip)
    refine counted_use (al := r.1) (by omega) (fun k hk => hk) fun kvs hc => ?_
    (first | simp_arith [onSome_some] | skip)
    exact hR kvs hc
  (first | simp_arith [lki1] | skip)
  refine ⟨by decide, ?_⟩
  refine cdlist_use roomD h.2 (fun r => r.2) (fun r hr R hR => ?_) fun wk hwl hwk => ?_
  · have h4 := hke r hr
    (first | simp_arith [onSome_some] | skip)
    refine counted_use (al := r.2) (by omega) (fun k hk => hk) fun kvs hc => ?_
    (first | simp_arith [onSome_some] | skip)
    exact hR kvs hc
  (first | simp_arith [lki2, lki3, lki4, lki4b] | skip)
  refine ⟨by decide, by decide, ⟨by omega, by omega, by decide⟩, by decide, ?_⟩
  refine counted_use (al := al) hal hk fun kvs hc => ?_
  (first | simp_all_arith [lki5, lki6, lki7, gone_gone] | skip)
  intro g1 g2 g3
  have hp : (1 * 2 ^ Int.toNat (h.2.length : Int) - 1 : Int) = ((2 ^ h.2.length : Nat) - 1 : Int) := by
    rw [Int.toNat_natCast, Int.one_mul]; push_cast; rfl
  rw [hp]
  exact q (opnT O.opened dx p (g1 1) (g2 2) (g3 3) (lk.map dictD) (wk.map dictD) h.2.length [(.inl (0 : Nat), dictD kvs)] [] []) ⟨dx, p, g1 1, g2 2, g3 3, lk, wk, _, rfl, ⟨hll, hwl, hlk, hwk, hr⟩, ⟨fun x hx => by
    rw [List.mem_singleton] at hx
    exact ⟨0, kvs, hx, Nat.two_pow_pos _, hc.congr fun k => (cntM_zero h k).symm⟩, by simp, by simp⟩⟩
/-! part o_bit -/
/-! sets of rooms as numbers, and orders -/
theorem bit_add {k m : Nat} (h : m.testBit k = false) (i : Nat) : (2 ^ k + m).testBit i = if i = k then true else m.testBit i := by
  by_cases e : i = k
  · subst e
    rw [if_pos rfl, Nat.testBit_two_pow_add_eq, h]; rfl
  · rw [if_neg e]
    by_cases hl : i < k
    · exact Nat.testBit_two_pow_add_gt hl m
    · obtain ⟨j, rfl⟩ : ∃ j, i = (k + 1) + j := ⟨i - (k + 1), by omega⟩
      have hb : m / 2 ^ k % 2 = 0 := by
        rw [Nat.testBit_eq_decide_div_mod_eq] at h
        have := of_decide_eq_false h
        omega
      have hd : (2 ^ k + m) / 2 ^ (k + 1) = m / 2 ^ (k + 1) := by
        have hp := Nat.two_pow_pos k
        rw [Nat.pow_succ, ← Nat.div_div_eq_div_mul, ← Nat.div_div_eq_div_mul, Nat.add_comm, Nat.add_div_right _ hp]
        omega
      have e1 : ∀ x : Nat, x.testBit (k + 1 + j) = (x / 2 ^ (k + 1)).testBit j := fun x => by
        rw [Nat.testBit_div_two_pow]
        first | rfl | rw [Nat.add_comm]
      rw [e1, e1, hd]
theorem add_lt {k m n : Nat} (hm : m < 2 ^ n) (hk : k < n) (h : m.testBit k = false) : 2 ^ k + m < 2 ^ n := by
  refine Nat.lt_pow_two_of_testBit _ fun i hi => ?_
  rw [bit_add h, if_neg (by omega)]
  exact Nat.testBit_lt_two_pow (Nat.lt_of_lt_of_le hm (Nat.pow_le_pow_right (by decide) hi))
theorem cntM_add {h : House} {k m : Nat} (hk : k < h.2.length) (hb : m.testBit k = false) (x : Str) : cntM h (2 ^ k + m) x = cntM h m x + difL h k x := by
  unfold cntM
  rw [sum_but (t := k) (d := difL h k x) (g := fun i => if m.testBit i = true then difL h i x else 0) (fun i hi => by show (if _ then _ else _) = if _ then _ else _; rw [bit_add hb, if_neg hi]) (by show (if _ then _ else _) = (if _ then _ else _) + _; rw [bit_add hb, if_pos rfl, hb]; simp), if_pos hk]
  omega
/-- the sets that orders open -/
inductive RM (g : House) : Nat → Prop
  | zero : RM g 0
  | step {m i : Nat} : RM g m → i ∈ nextM g m → RM g (2 ^ i + m)
theorem mem_nextM {h : House} {m k : Nat} (hk : k ∈ nextM h m) : k < h.2.length ∧ m.testBit k = false := by
  obtain ⟨h1, h2⟩ := List.mem_filter.mp hk
  unfold freeM at h2
  rw [Bool.and_eq_true] at h2
  exact ⟨List.mem_range.mp h1, by simpa using h2.1⟩
theorem RM.lt {g : House} {m : Nat} (r : RM g m) : m < 2 ^ g.2.length := by
  induction r with
  | zero => exact Nat.two_pow_pos _
  | step _ hi ih =>
    obtain ⟨h1, h2⟩ := mem_nextM hi
    exact add_lt ih h1 h2
theorem OpSt.form {al : List Str} {h : House} {C : Addr} {gk ek : KVs} {t : Tr} (st : OpSt al h C gk ek t) : ∃ dx q ts, t = .nd (.obj C dx opF) q ts := by
  obtain ⟨dx, q0, a1, a2, a3, lk, wk, hk, rfl, ok, ha⟩ := st.ex
  exact ⟨dx, q0, _, rfl⟩
theorem shl_one (m k : Nat) : (m : Int) + 1 * 2 ^ Int.toNat (k : Int) = ((2 ^ k + m : Nat) : Int) := by
  rw [Int.toNat_natCast, Int.one_mul]; push_cast; omega
/-! part o_ways31 -/
/-! in how many ways it may be gone on -/
/-- the rooms that are not in a set, counted -/
def leftM (h : House) (m : Nat) : Nat := ((List.range h.2.length).filter fun i => !m.testBit i).length
theorem testBit_addpow {m k : Nat} (hk : m.testBit k = false) (i : Nat) : (m + 2 ^ k).testBit i = (m.testBit i || decide (i = k)) := by
  rw [Nat.add_comm, bit_add hk]
  by_cases e : i = k
  · rw [if_pos e, decide_eq_true e, Bool.or_true]
  · rw [if_neg e, decide_eq_false e, Bool.or_false]
theorem len_but {l : List Nat} {p : Nat → Bool} {k : Nat} (nd : l.Nodup) (hk : k ∈ l) (hp : p k = true) : (l.filter fun i => p i && !decide (i = k)).length + 1 = (l.filter p).length := by
  induction l with
  | nil => exact nomatch hk
  | cons a l ih =>
    obtain ⟨na, nd2⟩ := List.nodup_cons.mp nd
    rcases List.mem_cons.mp hk with rfl | hk
    · rw [List.filter_cons, List.filter_cons, if_neg (by simp), if_pos hp, List.length_cons]
      congr 2
      refine List.filter_congr fun x hx => ?_
      have : x ≠ k := fun e => na (e ▸ hx)
      rw [decide_eq_false this]; simp
    · have := ih nd2 hk
      have hak : a ≠ k := fun e => na (e ▸ hk)
      rw [List.filter_cons, List.filter_cons, decide_eq_false hak]
      simp only [Bool.not_false, Bool.and_true]
      split
      · rw [List.length_cons, List.length_cons]; omega
      · exact this
theorem left_step {h : House} {m k : Nat} (h1 : k < h.2.length) (h2 : m.testBit k = false) : leftM h (m + 2 ^ k) + 1 = leftM h m := by
  unfold leftM
  rw [← len_but (p := fun i => !m.testBit i) List.nodup_range (List.mem_range.mpr h1) (by simp [h2])]
  congr 2
  refine List.filter_congr fun i _ => ?_
  rw [testBit_addpow h2]
  simp
theorem left_le (h : House) (m : Nat) : leftM h m ≤ h.2.length := by
  have := List.length_filter_le (fun i => !m.testBit i) (List.range h.2.length)
  rw [List.length_range] at this
  exact this
/-- numbers of ways that are kept -/
structure Wys (n : Nat) (w : Nat → Nat) (gk : KVs) : Prop where
  all : ∀ p ∈ gk, ∃ m : Nat, p = (.inl (m : Nat), .int (w m : Int)) ∧ m < 2 ^ n
  nd : (gk.map (·.1)).Nodup
theorem Wys.nil {n : Nat} {w : Nat → Nat} : Wys n w [] := ⟨fun _ h => (nomatch h), List.nodup_nil⟩
theorem Wys.len {n : Nat} {w : Nat → Nat} {gk : KVs} (H : Wys n w gk) : gk.length ≤ 2 ^ n := keys_len H.nd fun p hp => by
  obtain ⟨m, e, hm⟩ := H.all p hp
  exact ⟨m, by rw [e], hm⟩
theorem Wys.at {n : Nat} {w : Nat → Nat} {gk : KVs} {m : Nat} {d : PyData} (H : Wys n w gk) (e : getA gk (.inl (m : Nat)) = some d) : d = .int (w m : Int) := by
  obtain ⟨m', e2, _⟩ := H.all _ (getA_in e)
  have e3 : (.inl (m : Int) : Key) = .inl (m' : Int) := congrArg Prod.fst e2
  have e4 : d = .int (w m' : Int) := congrArg Prod.snd e2
  have : m = m' := by have := Sum.inl.inj e3; omega
  rw [e4, this]
theorem Wys.put {n : Nat} {w : Nat → Nat} {gk : KVs} {m : Nat} (H : Wys n w gk) (hm : m < 2 ^ n) : Wys n w (putA gk (.inl (m : Nat)) (.int (w m : Int))) := by
  refine ⟨fun p hp => ?_, putA_nodup _ _ H.nd⟩
  rcases putA_mem hp with ⟨e1, e2⟩ | ⟨_, hp⟩
  · exact ⟨m, by rw [← e1, ← e2], hm⟩
  · exact H.all p hp
theorem ints_nat (l : List Nat) : ints? (l.map fun k : Nat => PyData.int (k : Int)) = some (l.map fun k : Nat => (k : Int)) := by
  induction l with
  | nil => rfl
  | cons a l ih => simp only [List.map_cons, ints?, ih]; rfl
theorem sum_nat (l : List Nat) : (l.map fun k : Nat => (k : Int)).sum = (l.sum : Int) := by
  induction l with
  | nil => rfl
  | cons a l ih => rw [List.map_cons, List.sum_cons, List.sum_cons, ih]; push_cast; rfl
/-! part o_many31 -/
/-! orders and stuck orders counted -/
def allL (h : House) : List Str := h.1 ++ h.2.flatMap fun r : Room' => r.1 ++ r.2
theorem few_house_use {h : House} {P : RV → List Cell → Prop} (gd : GoodHouse h) (hn : h.2.length ≤ 12) (q : P (.f .none) []) : TT_need_few [.d (houseD h)] [] P := by
  have szl : 200000 < sizeLine := by decide
  have e12 : decide ((12 : Int) < (h.2.length : Int)) = false := decide_eq_false (by omega)
  (first | simp_arith [TT_need_few, tt_need_few] | skip)
  refine need_house_use gd ?_
  (first | simp_arith [e12] | skip)
  exact q
theorem init_house {O : OT} {h : House} {dx p : Addr} {P : RV → List Cell → Prop} (gd : GoodHouse h) (hn : h.2.length ≤ 12) (hz : (allL h).length ≤ 100000)
    (q : ∀ t, OpSt (allL h) h O.opened [] [] t → P (.f .none) [.tr t]) : TT_Opened_init O [.r 0, .d (houseD h)] [.tr (.nd (.obj O.opened dx []) p [])] P := by
  refine init_use hz (fun r hr => (gd.rooms r hr).2.2.2.1) hn gd.few gd.each (fun k hk => List.mem_append_left _ hk) (fun r hr => ⟨fun k hk => ?_, fun k hk => ?_⟩) q
  · exact List.mem_append_right _ (List.mem_flatMap.mpr ⟨r, hr, List.mem_append_left _ hk⟩)
  · exact List.mem_append_right _ (List.mem_flatMap.mpr ⟨r, hr, List.mem_append_right _ hk⟩)
/-- the rooms of a set -/
def roomsM (m : Nat) : List Nat := (List.range (Builtin.Int.intBits (m : Int) : Nat)).filter fun k => m.testBit k
theorem bit_and2 (m k : Nat) : decide (Builtin.bitAnd ((m : Int) / 2 ^ Int.toNat (k : Int)) 1 = 1) = m.testBit k := by
  have e : (m : Int) / 2 ^ Int.toNat (k : Int) = ((m / 2 ^ k : Nat) : Int) := by
    rw [Int.toNat_natCast]; push_cast; rfl
  rw [e, PyProof.Rows.bitAnd_m1, Nat.testBit_eq_decide_div_mod_eq]
  rcases Nat.mod_two_eq_zero_or_one (m / 2 ^ k) with h | h
  · rw [h, decide_eq_false (by omega)]; rfl
  · rw [h, decide_eq_true (by omega)]; rfl
theorem rooms_of_use {m : Nat} {P : RV → List Cell → Prop} (hm : m < 4096) (q : P (.n (.lst ((roomsM m).map fun k : Nat => .int (k : Int)))) []) : TT_rooms_of [.d (.int (m : Nat))] [] P := by
  have szl : 200000 < sizeLine := by decide
  have hb : (Builtin.Int.intBits (m : Int) : Nat) ≤ 12 := by
    by_cases h0 : m = 0
    · subst h0; decide
    · rw [bits_of (t := m.log2) (Nat.log2_self_le h0) Nat.lt_log2_self]
      have := (Nat.log2_lt h0 (k := 12)).mpr hm
      omega
  (first | simp_arith [TT_rooms_of, tt_rooms_of] | skip)
  refine ⟨by omega, by omega, ?_⟩
  rw [intsD_natE]
  refine lcW_map trivial (fun k : Nat => PyData.int (k : Int)) (fun k => m.testBit k) (fun k : Nat => PyData.int (k : Int)) (fun k hk R1 R2 h1 h2 => ?_) ?_
  · have hk2 : k < 12 := by have := List.mem_range.mp hk; omega
    (first | simp_arith [shrA, bandA, bit_and2] | skip)
    refine ⟨by omega, ?_⟩
    split
    · exact h1 ‹_›
    · exact h2 (eq_false_of_ne_true ‹_›)
  · rw [if_neg (by decide)]
    (first | simp_arith [onSome_some] | skip)
    exact q
/-! part o_sets -/
/-! all sets of rooms that orders open -/
def natL (o : List Nat) : PyData := .list (o.map fun k : Nat => .int (k : Int))
def inK (fd : KVs) (m : Nat) : Prop := (.inl (m : Int) : Key) ∈ fd.map (·.1)
structure SetsI (h : House) (fd : KVs) : Prop where
  all : ∀ p ∈ fd, ∃ (m : Nat) (o : List Nat), p = (.inl (m : Int), natL o) ∧ RM h m ∧ o.length + leftM h m = h.2.length
  nd : (fd.map (·.1)).Nodup
  z : inK fd 0
theorem SetsI.len {h : House} {fd : KVs} (S : SetsI h fd) : fd.length ≤ 2 ^ h.2.length := keys_len S.nd fun p hp => by
  obtain ⟨m, o, e, hm, _⟩ := S.all p hp
  exact ⟨m, by rw [e], hm.lt⟩
theorem SetsI.rm {h : House} {fd : KVs} (S : SetsI h fd) {m : Nat} (k : inK fd m) : RM h m := by
  obtain ⟨p, hp, e⟩ := List.mem_map.mp k
  obtain ⟨m', o, e2, hm, _⟩ := S.all p hp
  subst e2
  have : (m : Nat) = m' := by have := Sum.inl.inj e; omega
  exact this ▸ hm
theorem SetsI.get {h : House} {fd : KVs} (S : SetsI h fd) {m : Nat} (k : inK fd m) : ∃ o : List Nat, getA fd (.inl (m : Int)) = some (natL o) ∧ o.length + leftM h m = h.2.length := by
  obtain ⟨d, hd⟩ := getA_key k
  obtain ⟨m', o, e2, _, hl⟩ := S.all _ (getA_in hd)
  have e3 : (.inl (m : Int) : Key) = .inl (m' : Int) := congrArg Prod.fst e2
  have e4 : d = natL o := congrArg Prod.snd e2
  have : m = m' := by have := Sum.inl.inj e3; omega
  subst this
  exact ⟨o, by rw [hd, e4], hl⟩
theorem SetsI.put {h : House} {fd : KVs} {m : Nat} {o : List Nat} (S : SetsI h fd) (hm : RM h m) (hl : o.length + leftM h m = h.2.length) : SetsI h (putA fd (.inl (m : Int)) (natL o)) := by
  refine ⟨fun p hp => ?_, putA_nodup _ _ S.nd, putA_keeps S.z⟩
  rcases putA_mem hp with ⟨e1, e2⟩ | ⟨_, hp⟩
  · exact ⟨m, o, by rw [← e1, ← e2], hm, hl⟩
  · exact S.all p hp
theorem inK_put {fd : KVs} {m x : Nat} {d : PyData} (k : inK fd x) : inK (putA fd (.inl (m : Int)) d) x := putA_keeps k
theorem inK_new {fd : KVs} {m : Nat} {d : PyData} : inK (putA fd (.inl (m : Int)) d) m := putA_has fd _ d
theorem inK_dec {fd : KVs} {m : Nat} : (getA fd (.inl (m : Int))).isSome = true ↔ inK fd m := by
  constructor
  · intro e
    obtain ⟨d, hd⟩ := Option.isSome_iff_exists.mp e
    exact List.mem_map.mpr ⟨_, getA_in hd, rfl⟩
  · intro k
    obtain ⟨d, hd⟩ := getA_key k
    rw [hd]; rfl
theorem inK_inv {fd : KVs} {m x : Nat} {d : PyData} (k : inK (putA fd (.inl (m : Int)) d) x) : x = m ∨ inK fd x := by
  obtain ⟨p, hp, e⟩ := List.mem_map.mp k
  rcases putA_mem hp with ⟨e1, _⟩ | ⟨_, hp⟩
  · left
    have : (.inl (m : Int) : Key) = .inl (x : Int) := by rw [← e1, e]
    have := Sum.inl.inj this
    omega
  · exact .inr (List.mem_map.mpr ⟨p, hp, e⟩)
theorem alike_nats : ∀ a b : List Nat, PySem.W.alikeAll (a.map fun k : Nat => PyData.int (k : Int)) (b.map fun k : Nat => PyData.int (k : Int)) = true
  | [], _ => by rw [List.map_nil, PySem.W.alikeAll]
  | _ :: _, [] => by rw [List.map_nil, List.map_cons, PySem.W.alikeAll]
  | x :: a, y :: b => by
    rw [List.map_cons, List.map_cons, PySem.W.alikeAll, alike_nats a b]
    simp only [PySem.W.alike, Bool.and_self]
theorem lay_natL (a : List Nat) : Lay 1 (natL a) := lay_ordr a
theorem ltD_use {a b : List Nat} {s : AS} {Q : Bool → AS → Prop} (q : ∀ r, Q r s) : ltDT (.d (.list (a.map fun k : Nat => .int (k : Int)))) (.d (.list (b.map fun k : Nat => .int (k : Int)))) s Q :=
  ⟨natL a, rfl, natL b, rfl, ⟨by show PySem.W.alike (.list _) (.list _) = true; simp only [PySem.W.alike]; exact alike_nats a b, by simp [natL], Nat.le_trans (lay_natL a).2 (by decide), (lay_natL a).1, (lay_natL b).1⟩, q _⟩
/-- the sets behind a set were met -/
def Went (h : House) (fd : KVs) (m : Nat) : Prop := ∀ k ∈ nextM h m, inK fd (2 ^ k + m)
theorem sets_all {h : House} {fd : KVs} (S : SetsI h fd) (w : ∀ m, inK fd m → Went h fd m) : ∀ m, RM h m → inK fd m := fun m r => by
  induction r with
  | zero => exact S.z
  | step _ hi ih => exact w _ ih _ hi
theorem sets_use {O : OT} {h : House} {P : RV → List Cell → Prop} (gd : GoodHouse h) (hn : h.2.length ≤ 12) (hz : (allL h).length ≤ 100000)
    (q : ∀ fd, SetsI h fd → (∀ m, RM h m → inK fd m) → P (.n (.dK fd)) []) : TT_sets_that_come O [.d (houseD h)] [] P := by
  have szl : 200000 < sizeLine := by decide
  have hp := pow12 hn
  have hl0 := left_le h 0
  (first | simp_arith [TT_sets_that_come, tt_sets_that_come] | skip)
  intro p dx
  refine init_house gd hn hz fun t st => ?_
  obtain ⟨dx, q0, ts, rfl⟩ := st.form
  (first | simp_all_arith! [onSome_some] | skip)
  refine ⟨by omega, fun k s => ∃ t ls fd, OpSt (allL h) h O.opened [] [] t ∧ SetsI h fd ∧ (∀ x ∈ ls, inK fd x ∧ leftM h x < k) ∧ (∀ x, inK fd x → x ∈ ls ∨ Went h fd x) ∧ s = ⟨[some (.d (houseD h)), some (.r 0), some (.r 1), some (.r 2), none, none, none, none, none], [.tr t, .dK fd, .lst (ls.map fun k : Nat => .int (k : Int))]⟩, ⟨h.2.length + 1, _, [0], _, st, ⟨?_, ?_, ?_⟩, fun x hx => ?_, fun x hx => ?_, rfl⟩, ?_⟩
  · intro x hx
    rw [List.mem_singleton] at hx
    subst hx
    refine ⟨0, [], rfl, .zero, ?_⟩
    have e : leftM h 0 = h.2.length := by
      unfold leftM
      rw [List.filter_eq_self.mpr (fun i _ => by rw [Nat.zero_testBit]; rfl), List.length_range]
    rw [e]; simp
  · simp
  · simp [inK]
  · rw [List.mem_singleton] at hx
    subst hx
    exact ⟨by simp [inK], by omega⟩
  · left
    have : (.inl (x : Int) : Key) = .inl 0 := by simpa [inK] using hx
    have := Sum.inl.inj this
    rw [List.mem_singleton]; omega
  clear st q0 ts dx
  rintro k s ⟨t, ls, fd, st, S, hls, hdn, rfl⟩
  (first | simp_all_arith! [onSome_some] | skip)
  cases ls with
  | nil =>
    rw [if_neg (by simp), if_neg (by decide)]
    exact q fd S (sets_all S fun m km => (hdn m km).resolve_left (fun z => nomatch z))
  | cons l0 ls0 =>
    rw [if_pos (by simp)]
    have hk1 := (hls l0 (List.mem_cons_self ..)).2
    generalize l0 :: ls0 = ls at hls hdn
    refine forW_map (fun k : Nat => PyData.int (k : Int)) ls (fun i s => ∃ t fd fu, OpSt (allL h) h O.opened [] [] t ∧ SetsI h fd ∧ (∀ x ∈ ls, inK fd x ∧ leftM h x < k) ∧ (∀ x ∈ fu, inK fd x ∧ leftM h x < k - 1) ∧ fu.Nodup ∧ (∀ x, inK fd x → x ∈ ls.drop i ∨ x ∈ fu ∨ Went h fd x) ∧ s = ⟨[some (.d (houseD h)), some (.r 0), some (.r 1), some (.r 2), some (.r 3), none, none, none, none], [.tr t, .dK fd, .fz (.list (ls.map fun k : Nat => .int (k : Int))), .lst (fu.map fun k : Nat => .int (k : Int))]⟩) ⟨t, fd, [], st, S, hls, (fun _ h => nomatch h), List.nodup_nil, fun x hx => (hdn x hx).elim .inl fun w => .inr (.inr w), rfl⟩ ?_ ?_
    · clear st S hls hdn t fd
      rintro i m s' N hx ⟨t, fd, fu, st, S, hls, hfu, hfl, hdn, rfl⟩ hN
      have hml := hls m (List.mem_of_getElem? hx)
      have hmr := S.rm hml.1
      obtain ⟨dx, q0, ts, rfl⟩ := st.form
      (first | simp_all_arith! [lk_next_at, objN_o] | skip)
      refine next_at_use hz hn st hmr.lt fun t st => ?_
      obtain ⟨dx, q0, ts, rfl⟩ := st.form
      (first | simp_all_arith! [lk_next_at, objN_o] | skip)
      refine forW_map (fun k : Nat => PyData.int (k : Int)) (nextM h m) (fun j s => ∃ fd fu, SetsI h fd ∧ (∀ x ∈ ls, inK fd x ∧ leftM h x < k) ∧ (∀ x ∈ fu, inK fd x ∧ leftM h x < k - 1) ∧ fu.Nodup ∧ (∀ x, inK fd x → x = m ∨ x ∈ ls.drop (i + 1) ∨ x ∈ fu ∨ Went h fd x) ∧ (∀ (j' y : Nat), j' < j → (nextM h m)[j']? = some y → inK fd (2 ^ y + m)) ∧ s = ⟨[some (.d (houseD h)), some (.r 0), some (.r 1), some (.r 2), some (.r 3), some (.d (.int (m : Int))), none, none, none], [.tr (.nd (.obj O.opened dx opF) q0 ts), .dK fd, .fz (.list (ls.map fun k : Nat => .int (k : Int))), .lst (fu.map fun k : Nat => .int (k : Int))]⟩) ⟨fd, fu, S, hls, hfu, hfl, fun x hx2 => ?_, fun j' y hj => absurd hj (Nat.not_lt_zero _), rfl⟩ ?_ ?_
      · rcases hdn x hx2 with z | z
        · rw [List.drop_eq_getElem_cons (List.getElem?_eq_some_iff.mp hx).1] at z
          rcases List.mem_cons.mp z with z | z
          · exact .inl (z.trans (List.getElem?_eq_some_iff.mp hx).2)
          · exact .inr (.inl z)
        · exact .inr (.inr z)
      · have hml2 := hml.2
        clear hml S hls hfu hfl hdn fd fu
        rintro j y s' N2 hy ⟨fd, fu, S, hls, hfu, hfl, hdn, hpr, rfl⟩ hN2
        have hyn := List.mem_of_getElem? hy
        obtain ⟨b1, b2⟩ := mem_nextM hyn
        have hrm2 := RM.step hmr hyn
        have hst := left_step b1 b2
        have hfd := S.len
        obtain ⟨o, ho, hol⟩ := S.get (hls m (List.mem_of_getElem? hx)).1
        (first | simp_all_arith! [shlA, CPow, shl_one, getA_dk, ho, natL] | skip)
        have eo : o.map (fun k : Nat => PyData.int (k : Int)) ++ [PyData.int (y : Int)] = (o ++ [y]).map fun k : Nat => PyData.int (k : Int) := by rw [List.map_append]; rfl
        rw [eo]
        have hol2 : (o ++ [y]).length + leftM h (2 ^ y + m) = h.2.length := by
          rw [Nat.add_comm (2 ^ y) m, List.length_append, List.length_singleton]; omega
        have S2 := S.put hrm2 hol2
        have hfn : fu.length ≤ 4096 := by
          have := hfl.length_le_of_subset (l₂ := List.range (2 ^ h.2.length)) fun x hx => List.mem_range.mpr (S.rm (hfu x hx).1).lt
          rw [List.length_range] at this
          omega
        refine ⟨⟨by omega, by omega, by decide⟩, by omega, by omega, ?_⟩
        have hpr2 : ∀ fd2 : KVs, (∀ x, inK fd x → inK fd2 x) → inK fd2 (2 ^ y + m) → ∀ (j' y' : Nat), j' < j + 1 → (nextM h m)[j']? = some y' → inK fd2 (2 ^ y' + m) := fun fd2 s1 s2 j' y' hj hy' => by
          by_cases e : j' = j
          · subst e
            rw [hy] at hy'; cases hy'; exact s2
          · exact s1 _ (hpr j' y' (by omega) hy')
        have up : ∀ x, inK fd x → inK (putA fd (.inl ((2 ^ y + m : Nat) : Int)) (natL (o ++ [y]))) x := fun x hx => inK_put hx
        by_cases hin : inK fd (2 ^ y + m)
        · rw [Option.isSome_map, inK_dec.mpr hin, if_neg (by decide)]
          obtain ⟨o2, ho2, hol3⟩ := S.get hin
          rw [ho2]
          refine ⟨_, rfl, ltD_use (b := o2) fun r => ?_⟩
          cases r with
          | true =>
            (first | simp_arith [onSome_some] | skip)
            refine ⟨by omega, hN2 _ ⟨[some (.d (houseD h)), some (.r 0), some (.r 1), some (.r 2), some (.r 3), some (.d (.int (m : Int))), none, none, none], [.tr (.nd (.obj O.opened dx opF) q0 ts), .dK (putA fd (.inl ((2 ^ y + m : Nat) : Int)) (natL (o ++ [y]))), .fz (.list (ls.map fun k : Nat => .int (k : Int))), .lst (fu.map fun k : Nat => .int (k : Int))]⟩ (wk_of [] (by simp [SubS, ltO, AVal.lt, houseD, ksD]) rfl rfl (by simp)) ⟨_, fu, S2, fun x hx => ⟨up x (hls x hx).1, (hls x hx).2⟩, fun x hx => ⟨up x (hfu x hx).1, (hfu x hx).2⟩, hfl, fun x hx => ?_, hpr2 _ up inK_new, rfl⟩⟩
            rcases inK_inv hx with rfl | hx
            · rcases hdn _ hin with z | z | z | z
              · exact .inl z
              · exact .inr (.inl z)
              · exact .inr (.inr (.inl z))
              · exact .inr (.inr (.inr fun i hi => up _ (z i hi)))
            · rcases hdn x hx with z | z | z | z
              · exact .inl z
              · exact .inr (.inl z)
              · exact .inr (.inr (.inl z))
              · exact .inr (.inr (.inr fun i hi => up _ (z i hi)))
          | false =>
            (first | simp_arith [onSome_some] | skip)
            exact hN2 _ ⟨[some (.d (houseD h)), some (.r 0), some (.r 1), some (.r 2), some (.r 3), some (.d (.int (m : Int))), none, none, none], [.tr (.nd (.obj O.opened dx opF) q0 ts), .dK fd, .fz (.list (ls.map fun k : Nat => .int (k : Int))), .lst (fu.map fun k : Nat => .int (k : Int))]⟩ (wk_of [] (by simp [SubS, ltO, AVal.lt, houseD, ksD]) rfl rfl (by simp)) ⟨fd, fu, S, hls, hfu, hfl, hdn, hpr2 _ (fun _ h => h) hin, rfl⟩
        · have hno : (getA fd (.inl ((2 ^ y + m : Nat) : Int))).isSome = false := by
            cases e : (getA fd (.inl ((2 ^ y + m : Nat) : Int))).isSome
            · rfl
            · exact absurd (inK_dec.mp e) hin
          rw [Option.isSome_map, hno, if_pos (by decide)]
          have e3 : fu.map (fun k : Nat => PyData.int (k : Int)) ++ [PyData.int ((2 ^ y + m : Nat) : Int)] = (fu ++ [2 ^ y + m]).map fun k : Nat => PyData.int (k : Int) := by rw [List.map_append]; rfl
          rw [e3]
          refine ⟨by omega, by omega, hN2 _ ⟨[some (.d (houseD h)), some (.r 0), some (.r 1), some (.r 2), some (.r 3), some (.d (.int (m : Int))), none, none, none], [.tr (.nd (.obj O.opened dx opF) q0 ts), .dK (putA fd (.inl ((2 ^ y + m : Nat) : Int)) (natL (o ++ [y]))), .fz (.list (ls.map fun k : Nat => .int (k : Int))), .lst ((fu ++ [2 ^ y + m]).map fun k : Nat => .int (k : Int))]⟩ (wk_of [] (by simp [SubS, ltO, AVal.lt, houseD, ksD]) rfl rfl (by simp)) ⟨_, fu ++ [2 ^ y + m], S2, fun x hx => ⟨up x (hls x hx).1, (hls x hx).2⟩, fun x hx => ?_, ?_, fun x hx => ?_, hpr2 _ up inK_new, rfl⟩⟩
          · rcases List.mem_append.mp hx with hx | hx
            · exact ⟨up x (hfu x hx).1, (hfu x hx).2⟩
            · rw [List.mem_singleton] at hx; subst hx
              refine ⟨inK_new, ?_⟩
              rw [Nat.add_comm (2 ^ y) m]; omega
          · exact List.nodup_append.mpr ⟨hfl, by simp, fun a ha b hb => by rw [List.mem_singleton] at hb; subst hb; exact fun e => hin (e ▸ (hfu a ha).1)⟩
          · rcases inK_inv hx with rfl | hx
            · exact .inr (.inr (.inl (List.mem_append_right _ (List.mem_singleton.mpr rfl))))
            · rcases hdn x hx with z | z | z | z
              · exact .inl z
              · exact .inr (.inl z)
              · exact .inr (.inr (.inl (List.mem_append_left _ z)))
              · exact .inr (.inr (.inr fun i hi => up _ (z i hi)))
      · rintro s' ⟨fd, fu, S, hls, hfu, hfl, hdn, hpr, rfl⟩
        refine hN _ ⟨[some (.d (houseD h)), some (.r 0), some (.r 1), some (.r 2), some (.r 3), none, none, none, none], [.tr (.nd (.obj O.opened dx opF) q0 ts), .dK fd, .fz (.list (ls.map fun k : Nat => .int (k : Int))), .lst (fu.map fun k : Nat => .int (k : Int))]⟩ (wk_of [] (by simp [SubS, ltO, AVal.lt, houseD, ksD]) rfl rfl (by simp)) ⟨_, fd, fu, st, S, hls, hfu, hfl, fun x hx2 => ?_, rfl⟩
        rcases hdn x hx2 with z | z | z | z
        · subst z
          refine .inr (.inr fun y hy => ?_)
          obtain ⟨j, hj⟩ := List.mem_iff_getElem?.mp hy
          exact hpr j y (List.getElem?_eq_some_iff.mp hj).1 hj
        · exact .inl z
        · exact .inr (.inl z)
        · exact .inr (.inr z)
    · rintro s' ⟨t, fd, fu, st, S, hls, hfu, hfl, hdn, rfl⟩
      rw [List.drop_length] at hdn
      (first | simp_arith [onSome_some] | skip)
      obtain ⟨dx, q0, ts, rfl⟩ := st.form
      refine ⟨⟨[some (.d (houseD h)), some (.r 0), some (.r 1), some (.r 2), none, none, none, none, none], [.tr (.nd (.obj O.opened dx opF) q0 ts), .dK fd, .lst (fu.map fun k : Nat => .int (k : Int))]⟩, k - 1, wk_pick (m := 0) [0, 1, 3] [.tr (.nd (.obj O.opened dx opF) q0 ts), .dK fd, .lst (fu.map fun k : Nat => .int (k : Int))] ?_ (by decide) (by decide) rfl rfl rfl (by simp), by omega, _, fu, fd, st, S, hfu, fun x hx => (hdn x hx).resolve_left (fun z => nomatch z), rfl⟩
      simp [SubQ, partQ, hasR, ksD, houseD]
      exact ⟨by decide, by decide⟩
/-! part o_stuck31 -/
/-! the sets that stuck orders open -/
def intL (xs : List Int) : PyData := .list (xs.map .int)
def sortN (L : List (List Int)) : List (List Int) := L.mergeSort fun p q => decide (p ≤ q)
theorem sortN_D (L : List (List Int)) : (L.map intL).mergeSort (PySem.W.dataLe false id) = (sortN L).map intL :=
  (List.map_mergeSort (r := fun p q : List Int => decide (p ≤ q)) (s := PySem.W.dataLe false id) fun a _ b _ => (congrFun (congrFun (PySem.W.dataLe_rows (β := List Int) id) a) b).symm).symm
theorem sortN_sorted (L : List (List Int)) : (sortN L).Pairwise fun p q => p ≤ q := by
  have := List.pairwise_mergeSort (le := fun p q : List Int => decide (p ≤ q)) (fun a b c h1 h2 => decide_eq_true (List.le_trans (of_decide_eq_true h1) (of_decide_eq_true h2))) (fun a b => by
      rcases List.le_total a b with e | e
      · simp [e]
      · simp [e]) L
  exact this.imp fun e => of_decide_eq_true e
theorem sortN_perm {L M : List (List Int)} (p : L.Perm M) : sortN L = sortN M :=
  List.Perm.eq_of_pairwise (le := fun p q : List Int => p ≤ q) (fun a b _ _ h1 h2 => List.le_antisymm h1 h2) (sortN_sorted L) (sortN_sorted M) ((List.mergeSort_perm _ _).trans (p.trans (List.mergeSort_perm _ _).symm))
theorem alike_intL : ∀ xs ys : List Int, PySem.W.alikeAll (xs.map PyData.int) (ys.map PyData.int) = true
  | [], _ => by simp [PySem.W.alikeAll]
  | _ :: _, [] => by simp [PySem.W.alikeAll]
  | x :: xs, y :: ys => by
    rw [List.map_cons, List.map_cons, PySem.W.alikeAll, PySem.W.alike, alike_intL xs ys]
    rfl
theorem lay_intL (xs : List Int) : Lay 1 (intL xs) := lay_list fun d m => by
  obtain ⟨i, _, rfl⟩ := List.mem_map.mp m
  exact lay_int i
theorem sorta_intL (L : List (List Int)) : PySem.W.AllAlike (L.map intL) ∧ PySem.W.Sortable (L.map intL) ∧ ∀ d ∈ L.map intL, d.canLay0 = true ∧ d.depth ≤ 60 := by
  refine ⟨PySem.W.AllAlike.of fun a b => ?_, PySem.W.Sortable.others fun b => ⟨(fun z => nomatch z), (fun xs z => nomatch z)⟩, fun d hd => ?_⟩
  · show PySem.W.alike (.list _) (.list _) = true
    simp only [PySem.W.alike, alike_intL]
  · obtain ⟨k, _, rfl⟩ := List.mem_map.mp hd
    exact (lay_intL k).up (by decide)
open Classical in
noncomputable def stuckM (h : House) : List Nat := (List.range (2 ^ h.2.length)).filter fun m => decide (RM h m ∧ nextM h m = [])
open Classical in
theorem mem_stuckM {h : House} {m : Nat} : m ∈ stuckM h ↔ m < 2 ^ h.2.length ∧ RM h m ∧ nextM h m = [] := by
  unfold stuckM
  rw [List.mem_filter, decide_eq_true_eq, List.mem_range]
open Classical in
theorem stuckM_nodup (h : House) : (stuckM h).Nodup := List.nodup_range.filter _
def roomsI (m : Nat) : List Int := (roomsM m).map fun k : Nat => (k : Int)
theorem roomsI_D (m : Nat) : PyData.list ((roomsM m).map fun k : Nat => PyData.int (k : Int)) = intL (roomsI m) := by
  unfold intL roomsI
  rw [List.map_map]; rfl
noncomputable def stuckL (h : House) : List (List Int) := sortN ((stuckM h).map roomsI)
theorem keysN {n : Nat} : ∀ {fd : KVs}, (∀ p ∈ fd, ∃ m : Nat, p.1 = .inl (m : Int)) → ∃ ms : List Nat, (fd.map fun p => keyD p.1) = ms.map (fun m : Nat => PyData.int (m : Int)) ∧ fd.map (·.1) = ms.map fun m : Nat => (.inl (m : Int) : Key)
  | [], _ => ⟨[], rfl, rfl⟩
  | p :: fd, h => by
    obtain ⟨m, e⟩ := h p (List.mem_cons_self ..)
    obtain ⟨ms, e1, e2⟩ := keysN (n := n) fun q hq => h q (List.mem_cons_of_mem _ hq)
    exact ⟨m :: ms, by rw [List.map_cons, List.map_cons, e1, e]; rfl, by rw [List.map_cons, List.map_cons, e2, e]⟩
/-! part p_may -/
def mayB (cnt : Str → Nat) (lo : List Str) : Bool := lo.all fun k => decide (lo.count k ≤ cnt k)
theorem may_filter (cnt : Str → Nat) (lo : List Str) : ((lo.filter fun k => decide (cnt k < lo.count k)).map PyData.str).isEmpty = mayB cnt lo := by
  unfold mayB
  rw [← filter_none lo (fun k => decide (lo.count k ≤ cnt k)) PyData.str]
  congr 2
  refine List.filter_congr fun k _ => ?_
  rw [← decide_not]
  exact decide_eq_decide.mpr (by omega)
def mayAt (h : House) (L : List Str) (k : Nat) : Bool := match h.2[k]? with | some r => mayB (fun y => L.count y) r.1 | none => false
def nextL (h : House) (L : List Str) (order : List Nat) : List Nat := (List.range h.2.length).filter fun k => !decide (k ∈ order) && mayAt h L k
theorem CanGo.nil (h : House) : CanGo h [] := ⟨List.nodup_nil, fun i k hk => by simp at hk⟩
theorem CanGo.snoc {h : House} {order : List Nat} {k : Nat} {r : Room'} (c : CanGo h order) (hk : k ∉ order) (hr : h.2[k]? = some r) (hm : (r.1.all fun l => decide (r.1.count l ≤ (walkL h order).count l)) = true) : CanGo h (order ++ [k]) := by
  refine ⟨List.nodup_append.mpr ⟨c.nd, List.nodup_cons.mpr ⟨(fun h => nomatch h), List.nodup_nil⟩, fun a ha b hb e => by
    rw [List.mem_singleton] at hb
    subst hb; subst e
    exact hk ha⟩, fun i j hj => ?_⟩
  by_cases hi : i < order.length
  · rw [List.getElem?_append_left hi] at hj
    obtain ⟨s, hs, hm'⟩ := c.step i j hj
    refine ⟨s, hs, ?_⟩
    rw [List.take_append_of_le_length (by omega)]
    exact hm'
  · have hi2 : i = order.length := by
      have := (List.getElem?_eq_some_iff.mp hj).1
      rw [List.length_append] at this
      simp only [List.length_cons, List.length_nil] at this
      omega
    subst hi2
    rw [List.getElem?_append_right (Nat.le_refl _)] at hj
    have e : k = j := by simpa using hj
    subst e
    refine ⟨r, hr, ?_⟩
    rw [List.take_left']
    · exact hm
    · rfl
theorem walkL_app {h : House} {order : List Nat} {k : Nat} {r : Room'} (hr : h.2[k]? = some r) : walkL h (order ++ [k]) = behindL (walkL h order) r := by
  unfold walkL
  rw [List.foldl_append]
  show stepL h _ k = _
  unfold stepL
  rw [hr]
theorem stepL_len {h : House} (sm : Small h) (L : List Str) (k : Nat) : (stepL h L k).length ≤ L.length + 1000 := by
  unfold stepL
  split
  · rename_i r e
    have h1 := foldl_erase_len r.1 L
    have h2 := one_le (List.mem_of_getElem? e)
    have h3 := sm.k
    unfold behindL
    rw [List.length_append]
    omega
  · omega
theorem foldL_len {h : House} (sm : Small h) : ∀ (order : List Nat) (L : List Str), (order.foldl (stepL h) L).length ≤ L.length + 1000 * order.length
  | [], L => by simp
  | k :: order, L => by
    have h1 := foldL_len sm order (stepL h L k)
    have h2 := stepL_len sm L k
    rw [List.foldl_cons, List.length_cons]
    omega
theorem walkL_len {h : House} (sm : Small h) (order : List Nat) : (walkL h order).length ≤ 1000 + 1000 * order.length := by
  have h1 := foldL_len sm order h.1
  have h2 := sm.b
  unfold walkL
  omega
theorem mem_nextL {h : House} {L : List Str} {order : List Nat} {k : Nat} (hk : k ∈ nextL h L order) : k ∉ order ∧ ∃ r, h.2[k]? = some r ∧ (r.1.all fun l => decide (r.1.count l ≤ L.count l)) = true := by
  unfold nextL at hk
  rw [List.mem_filter] at hk
  obtain ⟨h1, h2⟩ := hk
  rw [Bool.and_eq_true] at h2
  refine ⟨by simpa using h2.1, ?_⟩
  have h3 := h2.2
  unfold mayAt at h3
  split at h3
  · rename_i r hr; exact ⟨r, hr, h3⟩
  · cases h3
/-! part o_mask -/
/-! orders as sets of rooms -/
def maskOf (o : List Nat) : Nat := (o.map fun k => 2 ^ k).sum
theorem maskOf_snoc (o : List Nat) (k : Nat) : maskOf (o ++ [k]) = 2 ^ k + maskOf o := by
  unfold maskOf
  rw [List.map_append, List.sum_append]
  simp; omega
theorem mask_bit : ∀ {o : List Nat}, o.Nodup → ∀ i, (maskOf o).testBit i = decide (i ∈ o)
  | [], _, i => by simp [maskOf, Nat.zero_testBit]
  | k :: o, nd, i => by
    have nd2 := List.nodup_cons.mp nd
    have ih := mask_bit nd2.2
    have e : maskOf (k :: o) = 2 ^ k + maskOf o := by unfold maskOf; rw [List.map_cons, List.sum_cons]
    have hb : (maskOf o).testBit k = false := by rw [ih]; exact decide_eq_false nd2.1
    rw [e, bit_add hb, ih]
    by_cases z : i = k
    · subst z; simp
    · rw [if_neg z]; simp [z]
theorem count_foldErase (k : Str) : ∀ (ls L : List Str), (∀ x, ls.count x ≤ L.count x) → (ls.foldl List.erase L).count k = L.count k - ls.count k
  | [], L, _ => by simp
  | y :: ls, L, h => by
    have hy := h y
    rw [List.count_cons_self] at hy
    rw [List.foldl_cons, count_foldErase k ls (L.erase y) fun x => by
      have hx := h x
      by_cases e : y = x
      · subst e; rw [List.count_erase_self]; rw [List.count_cons_self] at hx; omega
      · rw [List.count_erase_of_ne (fun z => e z.symm)]; rw [List.count_cons_of_ne e] at hx; exact hx]
    by_cases e : y = k
    · subst e; rw [List.count_erase_self, List.count_cons_self]; omega
    · rw [List.count_erase_of_ne (fun z => e z.symm), List.count_cons_of_ne e]
theorem cntM_walk {h : House} {o : List Nat} (c : CanGo h o) (k : Str) : cntM h (maskOf o) k = ((walkL h o).count k : Int) := by
  obtain ⟨n, hn⟩ : ∃ n, o.length = n := ⟨_, rfl⟩
  induction n generalizing o with
  | zero =>
    have : o = [] := List.eq_nil_of_length_eq_zero hn
    subst this
    exact cntM_zero h k
  | succ n ih =>
    obtain ⟨o', x, rfl⟩ : ∃ o' x, o = o' ++ [x] := by
      rcases List.eq_nil_or_concat o with rfl | ⟨o', x, rfl⟩
      · cases hn
      · exact ⟨o', x, List.concat_eq_append⟩
    have c' : CanGo h o' := by
      have := c.take o'.length
      rwa [List.take_left'  rfl] at this
    have hx : (o' ++ [x])[o'.length]? = some x := by simp
    obtain ⟨r, hr, hm⟩ := c.step _ _ hx
    rw [List.take_left' rfl] at hm
    have hxl := (List.getElem?_eq_some_iff.mp hr).1
    have hnx : x ∉ o' := fun z => by
      have := c.nd
      rw [List.nodup_append] at this
      exact this.2.2 x z x (List.mem_singleton.mpr rfl) rfl
    have ih' := ih c' (by simpa using hn)
    have hc : ∀ y, r.1.count y ≤ (walkL h o').count y := fun y => by
      by_cases z : y ∈ r.1
      · exact of_decide_eq_true (List.all_eq_true.mp hm y z)
      · rw [List.count_eq_zero.mpr z]; exact Nat.zero_le _
    rw [maskOf_snoc, cntM_add hxl (by rw [mask_bit c'.nd]; exact decide_eq_false hnx), ih', dif_at hr, walkL_app hr]
    show _ = ((r.1.foldl List.erase (walkL h o') ++ r.2).count k : Int)
    rw [List.count_append, count_foldErase k r.1 _ hc]
    have := hc k
    omega
theorem next_mask {h : House} {o : List Nat} (c : CanGo h o) : nextL h (walkL h o) o = nextM h (maskOf o) := by
  unfold nextL nextM
  refine List.filter_congr fun k hk => ?_
  unfold freeM mayAt
  rw [mask_bit c.nd]
  have hkl := List.mem_range.mp hk
  have hr : h.2[k]? = some h.2[k] := List.getElem?_eq_getElem hkl
  rw [hr]
  show (!decide (k ∈ o) && mayB _ h.2[k].1) = (!decide (k ∈ o) && h.2[k].1.all _)
  congr 1
  unfold mayB
  congr 1
  funext x
  rw [cntM_walk c]
  show decide (h.2[k].1.count x ≤ (walkL h o).count x) = _
  exact decide_eq_decide.mpr (by omega)
/-! part p_draw -/
/-! houses drawn (k29 k30 k31 k33) -/
theorem lkinds_use {ks : List Str} {n m : Nat} {P : RV → List Cell → Prop} (hk : 0 < ks.length) (hkl : ks.length ≤ 100) (hn : n ≤ 1000) (hm : m + n ≤ 1000000)
    (q : ∀ L : List Str, L.length = n → (∀ x ∈ L, x ∈ ks) → P (.n (.lst (L.map .str))) [.pool (m + n)]) : TT_law_kinds [.r 0, .d (.int (n : Int)), .d (ksD ks)] [.pool m] P := by
  have szl : 200000 < sizeLine := by decide
  (first | simp_arith [TT_law_kinds, tt_law_kinds] | skip)
  refine ⟨by omega, by omega, ?_⟩
  rw [intsD_natE]
  refine lcW_inv (fun k : Nat => PyData.int (k : Int)) (List.range n) (fun i acc cs => ∃ L : List Str, acc = L.map PyData.str ∧ L.length = i ∧ (∀ x ∈ L, x ∈ ks) ∧ cs = [.pool (m + i)]) ⟨[], rfl, rfl, (fun _ h => nomatch h), rfl⟩ (fun _ _ _ _ => trivial) ?_ ?_
  · rintro i k acc cs R1 R2 hx ⟨L, rfl, hL, hm2, rfl⟩ g1 g2
    have hi := (List.getElem?_eq_some_iff.mp hx).1
    rw [List.length_range] at hi
    (first | simp_arith [ksD] | skip)
    refine tTakeW_use (by omega) (by omega) (by omega) fun r hr => ?_
    have hr2 : r < ks.length := by omega
    have hg : ks[r]? = some ks[r] := List.getElem?_eq_getElem hr2
    (first | simp_arith [atI_natE, hg] | skip)
    refine g1 _ _ ⟨L ++ [ks[r]], by rw [List.map_append]; rfl, by rw [List.length_append, hL]; rfl, fun x hx => ?_, rfl⟩
    rcases List.mem_append.mp hx with h | h
    · exact hm2 x h
    · rw [List.mem_singleton.mp h]; exact List.getElem_mem hr2
  · rintro acc cs ⟨L, rfl, hL, hm2, rfl⟩
    rw [List.length_range] at hL ⊢
    (first | simp_arith [onSome_some] | skip)
    exact q L hL hm2
theorem words_use {m : Nat} {P : RV → List Cell → Prop} (hm : m + 200 ≤ 1000000)
    (q : ∀ (ws : List Str) (m' : Nat), 0 < ws.length → ws.length ≤ 16 → (∀ x ∈ ws, isKind x = true) → m' ≤ m + 100 → P (.n (.lst (ws.map .str))) [.pool m']) : TT_law_words [.r 0] [.pool m] P := by
  have szl : 200000 < sizeLine := by decide
  have hle : Str.ofString "abcdefghijklmnopqrstuvwxyz" = letters := rfl
  have ll : letters.cps.toList.length = 26 := by decide +kernel
  have lz : letters.length = 26 := by decide +kernel
  (first | simp_arith [TT_law_words, tt_law_words, hle] | skip)
  refine tTakeW_use (by omega) (by omega) (by omega) fun r hr => ?_
  (first | simp_arith [onSome_some] | skip)
  refine ⟨by omega, by omega, ?_⟩
  rw [show (5 : Int) + (r : Int) = ((5 + r : Nat) : Int) by omega, intsD_natE]
  refine forW_map (fun k : Nat => PyData.int (k : Int)) (List.range (5 + r)) (fun i s => ∃ (ws : List Str) (m' : Nat), (0 < i → 0 < ws.length) ∧ ws.length ≤ i ∧ (∀ x ∈ ws, isKind x = true) ∧ m' ≤ m + 1 + 5 * i ∧ s = ⟨[some (.r 0), some (.r 1), none, none, none], [.pool m', .lst (ws.map .str)]⟩) ⟨[], m + 1, (fun z => absurd z (by decide)), Nat.le_refl _, (fun _ h => nomatch h), by omega, rfl⟩ ?_ ?_
  · rintro i k s' N hx ⟨ws, m', h0, hwl, hwk, hm', rfl⟩ hN
    have hi := (List.getElem?_eq_some_iff.mp hx).1
    rw [List.length_range] at hi
    (first | simp_arith [onSome_some] | skip)
    refine tTakeW_use (by omega) (by omega) (by omega) fun r2 hr2 => ?_
    (first | simp_arith [onSome_some] | skip)
    refine ⟨by omega, by omega, ?_⟩
    rw [show (1 : Int) + (r2 : Int) = ((1 + r2 : Nat) : Int) by omega, intsD_natE]
    refine forW_map (fun k : Nat => PyData.int (k : Int)) (List.range (1 + r2)) (fun j s => ∃ x : Str, (∀ c ∈ x.cps.toList, c ∈ letters.cps.toList) ∧ x.length = j ∧ s = ⟨[some (.r 0), some (.r 1), some (.d (.int (k : Int))), some (.d (.str x)), none], [.pool (m' + 1 + j), .lst (ws.map .str)]⟩) ⟨"", (fun _ h => nomatch h), rfl, rfl⟩ ?_ ?_
    · rintro j k2 s' N2 hx2 ⟨x, hxc, hxl, rfl⟩ hN2
      have hj := (List.getElem?_eq_some_iff.mp hx2).1
      rw [List.length_range] at hj
      (first | simp_arith [lz] | skip)
      refine tTakeW_use (by omega) (by omega) (by omega) fun r3 hr3 => ?_
      have hr3' : r3 < letters.cps.toList.length := by omega
      have hg : letters.cps.toList[r3]? = some letters.cps.toList[r3] := List.getElem?_eq_getElem hr3'
      (first | simp_arith [atI_natE, hg, lz] | skip)
      refine ⟨by omega, by show x.length + 1 ≤ _; omega, ?_⟩
      have hc := List.getElem_mem hr3'
      generalize letters.cps.toList[r3] = c at hc
      have e : (x ++ ⟨#[c]⟩ : Str).cps.toList = x.cps.toList ++ [c] := by
        show (x.cps ++ #[c]).toList = _
        simp
      have hlen : (x ++ ⟨#[c]⟩ : Str).length = x.length + 1 := by
        show (x.cps ++ #[c]).size = _
        simp [Str.length]
      refine hN2 _ ⟨[some (.r 0), some (.r 1), some (.d (.int (k : Int))), some (.d (.str (x ++ ⟨#[c]⟩))), none], [.pool (m' + 1 + (j + 1)), .lst (ws.map .str)]⟩ (wk_of [] (by simp [SubS, ltO, AVal.lt]) rfl rfl (by simp)) ⟨_, fun d hd => ?_, by rw [hlen, hxl], rfl⟩
      rw [e] at hd
      rcases List.mem_append.mp hd with h | h
      · exact hxc d h
      · rw [List.mem_singleton.mp h]; exact hc
    · rintro s' ⟨x, hxc, hxl, rfl⟩
      rw [List.length_range] at hxl ⊢
      have hxk : isKind x = true := isKind_iff.mpr ⟨hxc, by omega, by omega⟩
      by_cases hin : x ∈ ws
      · (first | simp_arith [hin, decide_true] | skip)
        refine hN _ ⟨[some (.r 0), some (.r 1), none, none, none], [.pool (m' + 1 + (1 + r2)), .lst (ws.map .str)]⟩ (wk_of [] (by simp [SubS, ltO, AVal.lt]) rfl rfl (by simp)) ⟨ws, _, fun _ => List.length_pos_of_mem hin, by omega, hwk, by omega, rfl⟩
      · (first | simp_arith [hin, decide_false] | skip)
        refine ⟨by omega, hN _ ⟨[some (.r 0), some (.r 1), none, none, none], [.pool (m' + 1 + (1 + r2)), .lst ((ws ++ [x]).map .str)]⟩ (wk_of [] (by simp [SubS, ltO, AVal.lt]) (by simp) rfl (by simp)) ⟨ws ++ [x], _, fun _ => by rw [List.length_append]; show 0 < _ + 1; omega, by rw [List.length_append]; show _ + 1 ≤ _; omega, fun y hy => ?_, by omega, rfl⟩⟩
        rcases List.mem_append.mp hy with h | h
        · exact hwk y h
        · rw [List.mem_singleton.mp h]; exact hxk
  · rintro s' ⟨ws, m', h0, hwl, hwk, hm', rfl⟩
    rw [List.length_range] at h0 hwl hm'
    (first | simp_arith [onSome_some] | skip)
    exact q ws m' (h0 (by omega)) (by omega) hwk (by omega)
structure DrawH (n : Nat) (h : House) : Prop where
  good : GoodHouse h
  rooms : h.2.length = n
  beg : h.1.length ≤ 190
  each : ∀ r ∈ h.2, r.2.length ≤ 6
  kinds : ∃ ks : List Str, ks.length ≤ 16 ∧ (∀ k ∈ h.1, k ∈ ks) ∧ ∀ r ∈ h.2, (∀ k ∈ r.1, k ∈ ks) ∧ ∀ k ∈ r.2, k ∈ ks
theorem dhouse_use {n m : Nat} {P : RV → List Cell → Prop} (hn : n ≤ 60) (hm : m + 3000 ≤ 1000000)
    (q : ∀ (h : House) (m' : Nat), DrawH n h → m' ≤ m + 2000 → P (.f (houseD h)) [.pool m']) : TT_law_house [.r 0, .d (.int (n : Int))] [.pool m] P := by
  have szl : 200000 < sizeLine := by decide
  (first | simp_arith [TT_law_house, tt_law_house] | skip)
  refine ⟨by omega, by omega, by omega, by omega, by omega, by omega, ?_⟩
  refine words_use (by omega) fun ws m1 hw0 hwl hwk hm1 => ?_
  (first | simp_arith [onSome_some] | skip)
  refine ⟨by omega, by omega, ?_⟩
  refine tTakeW_use (by omega) (by omega) (by omega) fun r1 hr1 => ?_
  (first | simp_arith [onSome_some] | skip)
  obtain ⟨ks, ek, hk0, hkl, hkk⟩ : ∃ ks : List Str, L2.atI [AVal.d (PyData.list [PyData.str "a"]), AVal.d (PyData.list [PyData.str "a", PyData.str "b"]), AVal.d (PyData.list [PyData.str "a", PyData.str "b", PyData.str "cc"]), AVal.d (PyData.list [PyData.str "ab", PyData.str "abce", PyData.str "zbcd", PyData.str "abcd"]), AVal.d (PyData.list [PyData.str "key", PyData.str "a", PyData.str "b", PyData.str "abcd", PyData.str "keyb", PyData.str "cb", PyData.str "keya"]), AVal.d (PyData.list (ws.map PyData.str))] (r1 : Int) = some (.d (ksD ks)) ∧ 0 < ks.length ∧ ks.length ≤ 16 ∧ ∀ x ∈ ks, isKind x = true := by
    rw [atI_natE]
    rcases r1 with _ | _ | _ | _ | _ | _ | r1
    · exact ⟨[("a" : Str)], rfl, by decide, by decide, by decide +kernel⟩
    · exact ⟨[("a" : Str), "b"], rfl, by decide, by decide, by decide +kernel⟩
    · exact ⟨[("a" : Str), "b", "cc"], rfl, by decide, by decide, by decide +kernel⟩
    · exact ⟨[("ab" : Str), "abce", "zbcd", "abcd"], rfl, by decide, by decide, by decide +kernel⟩
    · exact ⟨[("key" : Str), "a", "b", "abcd", "keyb", "cb", "keya"], rfl, by decide, by decide, by decide +kernel⟩
    · exact ⟨ws, rfl, hw0, hwl, hwk⟩
    · omega
  rw [ek]
  (first | simp_arith [onSome_some] | skip)
  refine tTakeW_use (by omega) (by omega) (by omega) fun r2 hr2 => ?_
  (first | simp_arith [onSome_some] | skip)
  refine tTakeW_use (by omega) (by omega) (by omega) fun r3 hr3 => ?_
  have hmul : (r2 : Int) * (r3 : Int) = ((r2 * r3 : Nat) : Int) := by push_cast; rfl
  have hmul3 : r2 * r3 ≤ 3 := by
    have h1 : r2 ≤ 1 := by omega
    have h2 : r3 ≤ 3 := by omega
    calc r2 * r3 ≤ 1 * 3 := Nat.mul_le_mul h1 h2
      _ = 3 := rfl
  (first | simp_arith [onSome_some] | skip)
  obtain ⟨lk, hlk, hlk4⟩ : ∃ lk : Nat, lk = 1 + r2 * r3 ∧ lk ≤ 4 := ⟨_, rfl, by omega⟩
  have elk : (1 : Int) + (r2 : Int) * (r3 : Int) = (lk : Int) := by rw [hlk]; push_cast; rfl
  have hlk1 : 1 ≤ lk := by omega
  clear ek
  refine ⟨.inl ⟨by omega, by omega⟩, by omega, by omega, ?_⟩
  rw [intsD_natE]
  simp only [elk]
  refine forW_map (fun k : Nat => PyData.int (k : Int)) (List.range n) (fun i s => ∃ (rs : List Room') (m' : Nat), rs.length = i ∧ (∀ r ∈ rs, goodRoom r ∧ r.2.length ≤ 6 ∧ (∀ k ∈ r.1, k ∈ ks) ∧ ∀ k ∈ r.2, k ∈ ks) ∧ m' ≤ m1 + 4 + 20 * i ∧ s = ⟨[some (.r 0), some (.d (.int (n : Int))), some (.d (ksD ks)), some (.d (.int (lk : Int))), some (.r 1), none, none], [.pool m', .lst (rs.map roomD)]⟩) ⟨[], m1 + 1 + 1 + 1, rfl, (fun _ h => nomatch h), by omega, rfl⟩ ?_ ?_
  · rintro i k s' N hx ⟨rs, m', hrl, hrk, hm', rfl⟩ hN
    have hi := (List.getElem?_eq_some_iff.mp hx).1
    rw [List.length_range] at hi
    (first | simp_arith [onSome_some] | skip)
    refine tTakeW_use (by omega) (by omega) (by omega) fun r4 hr4 => ?_
    have e4 : (1 : Int) + (r4 : Int) = ((1 + r4 : Nat) : Int) := by omega
    (first | simp_arith [e4] | skip)
    refine lkinds_use hk0 (by omega) (by omega) (by omega) fun L hL hLk => ?_
    (first | simp_arith [srtD_strs] | skip)
    refine ⟨by omega, tTakeW_use (by omega) (by omega) (by omega) fun r5 hr5 => ?_⟩
    obtain ⟨v, ev, hv⟩ : ∃ v : Nat, L2.atI [PyData.int 0, PyData.int 1, PyData.int 1, PyData.int 2, PyData.int 2, PyData.int 3, PyData.int 1, PyData.int 6] (r5 : Int) = some (.int (v : Int)) ∧ v ≤ 6 := by
      rw [atI_natE]
      rcases r5 with _ | _ | _ | _ | _ | _ | _ | _ | r5
      · exact ⟨0, rfl, by decide⟩
      · exact ⟨1, rfl, by decide⟩
      · exact ⟨1, rfl, by decide⟩
      · exact ⟨2, rfl, by decide⟩
      · exact ⟨2, rfl, by decide⟩
      · exact ⟨3, rfl, by decide⟩
      · exact ⟨1, rfl, by decide⟩
      · exact ⟨6, rfl, by decide⟩
      · omega
    (first | simp_arith [ev] | skip)
    refine lkinds_use hk0 (by omega) (by omega) (by omega) fun M hM hMk => ?_
    (first | simp_arith [onSome_some] | skip)
    have gL : goodRoom (srt L, M) := ⟨fun x hx => hkk x (hLk x (mem_srt.mp hx)), fun x hx => hkk x (hMk x hx), by show 1 ≤ (srt L).length; rw [srt_length]; omega, by show (srt L).length ≤ 4; rw [srt_length]; omega, srt_srt L⟩
    refine ⟨by omega, by omega, hN _ ⟨[some (.r 0), some (.d (.int (n : Int))), some (.d (ksD ks)), some (.d (.int (lk : Int))), some (.r 1), none, none], [.pool (m' + 1 + (1 + r4) + 1 + v), .lst ((rs ++ [(srt L, M)]).map roomD)]⟩ (wk_of [] (by simp [SubS, ltO, AVal.lt, ksD]) (by simp [roomD, ksD]) rfl (by simp)) ⟨rs ++ [(srt L, M)], _, by rw [List.length_append, hrl]; rfl, fun r hr => ?_, by omega, rfl⟩⟩
    rcases List.mem_append.mp hr with h | h
    · exact hrk r h
    · rw [List.mem_singleton.mp h]
      exact ⟨gL, by show M.length ≤ 6; omega, fun x hx => hLk x (mem_srt.mp hx), hMk⟩
  · rintro s' ⟨rs, m', hrl, hrk, hm', rfl⟩
    rw [List.length_range] at hrl hm'
    (first | simp_arith [onSome_some] | skip)
    refine tTakeW_use (by omega) (by omega) (by omega) fun r6 hr6 => ?_
    (first | simp_arith [onSome_some] | skip)
    refine ⟨by omega, tTakeW_use (by omega) (by omega) (by omega) fun r7 hr7 => ?_⟩
    obtain ⟨v, ev, hv⟩ : ∃ v : Nat, L2.atI [PyData.int 1, PyData.int 2, PyData.int 3, PyData.int 1, PyData.int 0, PyData.int 2, PyData.int 1, PyData.int (30 + (r6 : Int))] (r7 : Int) = some (.int (v : Int)) ∧ v ≤ 190 := by
      rw [atI_natE]
      rcases r7 with _ | _ | _ | _ | _ | _ | _ | _ | r7
      · exact ⟨1, rfl, by decide⟩
      · exact ⟨2, rfl, by decide⟩
      · exact ⟨3, rfl, by decide⟩
      · exact ⟨1, rfl, by decide⟩
      · exact ⟨0, rfl, by decide⟩
      · exact ⟨2, rfl, by decide⟩
      · exact ⟨1, rfl, by decide⟩
      · exact ⟨30 + r6, by rw [show ((30 + r6 : Nat) : Int) = 30 + (r6 : Int) by omega]; rfl, by omega⟩
      · omega
    (first | simp_arith [ev] | skip)
    refine lkinds_use hk0 (by omega) (by omega) (by omega) fun L hL hLk => ?_
    (first | simp_arith [onSome_some] | skip)
    refine ⟨by omega, q (L, rs) _ ⟨⟨fun x hx => hkk x (hLk x hx), fun r hr => (hrk r hr).1, by show L.length ≤ _; omega, by show rs.length ≤ _; omega, fun r hr => by have := (hrk r hr).2.1; omega⟩, hrl, by show L.length ≤ _; omega, fun r hr => (hrk r hr).2.1, ks, hkl, hLk, fun r hr => (hrk r hr).2.2⟩ (by omega)⟩
/-! part p_dr28 -/
/-! sizes of drawn houses -/
theorem flat_le {c : Nat} : ∀ {rs : List Room'}, (∀ r ∈ rs, r.1.length + r.2.length ≤ c) → (rs.flatMap fun r : Room' => r.1 ++ r.2).length ≤ c * rs.length
  | [], _ => by simp
  | r :: rs, h => by
    have ih := flat_le (rs := rs) fun x hx => h x (List.mem_cons_of_mem _ hx)
    have h1 := h r (List.mem_cons_self ..)
    rw [List.flatMap_cons, List.length_append, List.length_append, List.length_cons, Nat.mul_add]
    omega
theorem keysIn_le {c : Nat} : ∀ {rs : List Room'}, (∀ r ∈ rs, r.2.length ≤ c) → keysIn rs ≤ c * rs.length
  | [], _ => Nat.zero_le _
  | r :: rs, h => by
    have ih := keysIn_le (rs := rs) fun x hx => h x (List.mem_cons_of_mem _ hx)
    have h1 := h r (List.mem_cons_self ..)
    unfold keysIn at ih ⊢
    rw [List.map_cons, List.sum_cons, List.length_cons, Nat.mul_add]
    omega
theorem DrawH.small {n : Nat} {h : House} (d : DrawH n h) (hn : n ≤ 60) : Small h := by
  have h1 := keysIn_le d.each
  have h2 := d.beg
  have h3 := d.rooms
  exact ⟨d.good, by omega, by omega, by omega⟩
theorem DrawH.all {n : Nat} {h : House} (d : DrawH n h) (hn : n ≤ 60) : (allL h).length ≤ 1000 := by
  have h1 : (h.2.flatMap fun r : Room' => r.1 ++ r.2).length ≤ 10 * h.2.length := flat_le fun r hr => by
    have := (d.good.rooms r hr).2.2.2.1
    have := d.each r hr
    omega
  have h2 := d.beg
  have h3 := d.rooms
  unfold allL
  rw [List.length_append]
  omega
/-! part p_copy28 -/
/-! a house copied by the law, at any depth -/
theorem cp0 {x : Str} {P : RV → List Cell → Prop} (q : P (.f (.str x)) []) : TT_law_copy_r0 [.d (.str x)] [] P := by
  have e1 : kitB "str" "list" = some false := by decide +kernel
  have e2 : kitB "str" "tuple" = some false := by decide +kernel
  (first | simp_arith [TT_law_copy_r0, tt_law_copy_r0, e1, e2] | skip)
  exact q
theorem cp1 {ks : List Str} {P : RV → List Cell → Prop} (q : P (.n (.lst (ks.map .str))) []) : TT_law_copy_r1 [.d (ksD ks)] [] P := by
  have e1 : kitB "list" "list" = some true := by decide +kernel
  (first | simp_arith [TT_law_copy_r1, tt_law_copy_r1, ksD, e1] | skip)
  refine lcW_map trivial PyData.str (fun _ => true) PyData.str (fun x hx R1 R2 h1 h2 => ?_) ?_
  · (first | simp_arith [onSome_some] | skip)
    refine cp0 ?_
    (first | simp_arith [onSome_some] | skip)
    exact h1 rfl
  · rw [List.filter_eq_self.mpr (fun _ _ => rfl), List.nil_append]
    (first | simp_arith [onSome_some] | skip)
    exact q
theorem cp2s {x : Str} {P : RV → List Cell → Prop} (q : P (.f (.str x)) []) : TT_law_copy_r2 [.d (.str x)] [] P := by
  have e1 : kitB "str" "list" = some false := by decide +kernel
  have e2 : kitB "str" "tuple" = some false := by decide +kernel
  (first | simp_arith [TT_law_copy_r2, tt_law_copy_r2, e1, e2] | skip)
  exact q
theorem cp2 {r : Room'} {P : RV → List Cell → Prop} (q : P (.f (roomD r)) []) : TT_law_copy_r2 [.d (roomD r)] [] P := by
  have e1 : kitB "tuple" "list" = some false := by decide +kernel
  have e2 : kitB "tuple" "tuple" = some true := by decide +kernel
  (first | simp_arith [TT_law_copy_r2, tt_law_copy_r2, roomD, e1, e2] | skip)
  refine lcW_map (xs := [r.1, r.2]) trivial ksD (fun _ => true) ksD (fun x hx R1 R2 h1 h2 => ?_) ?_
  · (first | simp_arith [onSome_some] | skip)
    refine cp1 ?_
    (first | simp_arith [onSome_some] | skip)
    exact h1 rfl
  · rw [List.filter_eq_self.mpr (fun _ _ => rfl), List.nil_append]
    (first | simp_arith [onSome_some] | skip)
    exact q
theorem cp3k {ks : List Str} {P : RV → List Cell → Prop} (q : P (.n (.lst (ks.map .str))) []) : TT_law_copy_r3 [.d (ksD ks)] [] P := by
  have e1 : kitB "list" "list" = some true := by decide +kernel
  (first | simp_arith [TT_law_copy_r3, tt_law_copy_r3, ksD, e1] | skip)
  refine lcW_map trivial PyData.str (fun _ => true) PyData.str (fun x hx R1 R2 h1 h2 => ?_) ?_
  · (first | simp_arith [onSome_some] | skip)
    refine cp2s ?_
    (first | simp_arith [onSome_some] | skip)
    exact h1 rfl
  · rw [List.filter_eq_self.mpr (fun _ _ => rfl), List.nil_append]
    (first | simp_arith [onSome_some] | skip)
    exact q
theorem cp3 {rs : List Room'} {P : RV → List Cell → Prop} (q : P (.n (.lst (rs.map roomD))) []) : TT_law_copy_r3 [.d (.list (rs.map roomD))] [] P := by
  have e1 : kitB "list" "list" = some true := by decide +kernel
  (first | simp_arith [TT_law_copy_r3, tt_law_copy_r3, e1] | skip)
  refine lcW_map trivial roomD (fun _ => true) roomD (fun x hx R1 R2 h1 h2 => ?_) ?_
  · (first | simp_arith [onSome_some] | skip)
    refine cp2 ?_
    (first | simp_arith [onSome_some] | skip)
    exact h1 rfl
  · rw [List.filter_eq_self.mpr (fun _ _ => rfl), List.nil_append]
    (first | simp_arith [onSome_some] | skip)
    exact q
def partD (h : House) : Bool → PyData
  | true => .list (h.2.map roomD)
  | false => ksD h.1
theorem lcopy_use {h : House} {P : RV → List Cell → Prop} (q : P (.f (houseD h)) []) : TT_law_copy_r4 [.d (houseD h)] [] P := by
  have e1 : kitB "tuple" "list" = some false := by decide +kernel
  have e2 : kitB "tuple" "tuple" = some true := by decide +kernel
  (first | simp_arith [TT_law_copy_r4, tt_law_copy_r4, houseD, e1, e2] | skip)
  have e : [PyData.list (List.map PyData.str h.fst), PyData.list (List.map roomD h.snd)] = [false, true].map (partD h) := rfl
  rw [e]
  refine lcW_map (α := Bool) (xs := [false, true]) (ok := fun _ => True) trivial (partD h) (fun _ => true) (partD h) (fun b hb R1 R2 h1 h2 => ?_) ?_
  · have h1 := h1 rfl
    cases b with
    | false =>
      (first | simp_arith [partD] at h1 | skip)
      (first | simp_arith [partD] | skip)
      refine cp3k ?_
      (first | simp_arith [onSome_some] | skip)
      exact h1
    | true =>
      (first | simp_arith [partD] at h1 | skip)
      (first | simp_arith [partD] | skip)
      refine cp3 ?_
      (first | simp_arith [onSome_some] | skip)
      exact h1
  · rw [List.filter_eq_self.mpr (fun _ _ => rfl), List.nil_append]
    (first | simp_arith [onSome_some] | skip)
    exact q
/-! part p_lnx -/
/-! the law's next rooms (k29 k30 k31 k33) -/
theorem lnext_use {h : House} {o : List Nat} {P : RV → List Cell → Prop} (sm : Small h) (hr60 : h.2.length ≤ 60) (hol : o.length ≤ 60) (cg : CanGo h o) (q : P (.n (.lst ((nextM h (maskOf o)).map fun k : Nat => .int (k : Int)))) []) : TT_law_next [.d (houseD h), .d (natsD o)] [] P := by
  have szl : 200000 < sizeLine := by decide
  rw [← next_mask cg] at q
  (first | simp_arith [TT_law_next, tt_law_next, natsD] | skip)
  refine forW_fun (fun k : Nat => PyData.int (k : Int)) o (fun i => ⟨[some (.d (houseD h)), some (.d (natsD o)), some (.r 0), none, none, none, none], [.lst ((walkL h (o.take i)).map .str)]⟩) rfl ?_ ?_
  · intro i k N hk hN
    obtain ⟨r, hr, hm⟩ := cg.step i k hk
    have hw := walkL_len sm (o.take i)
    have hi := (List.getElem?_eq_some_iff.mp hk).1
    rw [List.length_take] at hw
    (first | simp_arith [atI_natE, hr] | skip)
    refine forW_fun PyData.str r.1 (fun j => ⟨[some (.d (houseD h)), some (.d (natsD o)), some (.r 0), some (.d (.int (k : Int))), none, none, none], [.lst (((r.1.take j).foldl List.erase (walkL h (o.take i))).map .str)]⟩) rfl ?_ ?_
    · intro j x N2 hx hN2
      (first | simp_arith [onSome_some] | skip)
      refine ⟨may_mem hm hx, hN2 _ ?_⟩
      rw [foldl_erase_snoc hx]
      exact wk_of [] (by simp [SubS, ltO, AVal.lt, ksD, roomD, houseD, natsD]) rfl rfl (by simp)
    · rw [List.take_length]
      have hel := foldl_erase_len r.1 (walkL h (o.take i))
      have hk2 := sm.k
      have hr2 := one_le (List.mem_of_getElem? hr)
      (first | simp_arith [atI_natE, hr] | skip)
      refine ⟨by omega, hN _ (wk_pick (m := 0) [1] [.lst ((walkL h (o.take (i + 1))).map .str)] ?_ (by decide) (by decide) ?_ rfl rfl (by simp))⟩
      · simp [SubQ, partQ, hasR, ksD, houseD, natsD]
      · rw [walkL_snoc hk hr]
        simp [subC, behindL]
  · rw [List.take_length]
    (first | simp_arith [onSome_some] | skip)
    refine ⟨by omega, by omega, ?_⟩
    rw [intsD_natE]
    refine forW_fun (fun k : Nat => PyData.int (k : Int)) (List.range h.2.length) (fun i => ⟨[some (.d (houseD h)), some (.d (natsD o)), some (.r 0), none, none, some (.r 1), none], [.lst ((walkL h o).map .str), .lst (((List.range i).filter fun k => !decide (k ∈ o) && mayAt h (walkL h o) k).map fun k : Nat => .int (k : Int))]⟩) rfl ?_ ?_
    · intro i k N hk hN
      have hi := (List.getElem?_eq_some_iff.mp hk).1
      rw [List.length_range] at hi
      obtain rfl : k = i := by rw [List.getElem?_range hi] at hk; cases hk; rfl
      have hr : h.2[k]? = some h.2[k] := List.getElem?_eq_getElem hi
      generalize h.2[k] = r at hr
      have em : mayAt h (walkL h o) k = mayB (fun y => (walkL h o).count y) r.1 := by unfold mayAt; rw [hr]
      have hfil : (List.range (k + 1)).filter (fun k => !decide (k ∈ o) && mayAt h (walkL h o) k) = (List.range k).filter (fun k => !decide (k ∈ o) && mayAt h (walkL h o) k) ++ if (!decide (k ∈ o) && mayAt h (walkL h o) k) = true then [k] else [] := by
        rw [List.range_succ, List.filter_append, List.filter_cons, List.filter_nil]
      have hfl : ((List.range k).filter (fun k => !decide (k ∈ o) && mayAt h (walkL h o) k)).length ≤ k := by
        have := List.length_filter_le (fun k => !decide (k ∈ o) && mayAt h (walkL h o) k) (List.range k)
        rwa [List.length_range] at this
      (first | simp_arith [atI_natE, hr] | skip)
      refine lcW_map trivial PyData.str (fun x => decide ((walkL h o).count x < r.1.count x)) PyData.str (fun x hx R1 R2 h1 h2 => ?_) ?_
      · have e : decide (((walkL h o).count x : Int) < (r.1.count x : Int)) = decide ((walkL h o).count x < r.1.count x) := decide_eq_decide.mpr (by omega)
        (first | simp_arith [atI_natE, hr, e] | skip)
        exact iteB h1 h2
      · rw [List.nil_append]
        by_cases hko : k ∈ o
        · (first | simp_arith [natsD, hko, decide_true] | skip)
          refine hN _ ?_
          rw [hfil, decide_eq_true hko]
          exact wk_of [] (by simp [SubS, ltO, AVal.lt, ksD, roomD, houseD, natsD]) (by simp) rfl (by simp)
        · (first | simp_arith [natsD, hko, decide_false] | skip)
          rw [may_filter, ← em]
          rw [decide_eq_false hko] at hfil
          cases hma : mayAt h (walkL h o) k with
          | false =>
            rw [hma] at hfil
            rw [if_neg (by decide)]
            refine hN _ ?_
            rw [hfil]
            exact wk_of [] (by simp [SubS, ltO, AVal.lt, ksD, roomD, houseD, natsD]) (by simp) rfl (by simp)
          | true =>
            rw [hma] at hfil
            rw [if_pos rfl]
            (first | simp_arith [onSome_some] | skip)
            refine ⟨by omega, hN _ ?_⟩
            rw [hfil]
            exact wk_of [] (by simp [SubS, ltO, AVal.lt, ksD, roomD, houseD, natsD]) (by simp) rfl (by simp)
    · (first | simp_arith [List.length_range] | skip)
      exact q
/-! part p_cgm28 -/
/-! orders gone, as the law looks at them -/
theorem canGo_mask28 {h : House} {o : List Nat} (c : CanGo h o) {k : Nat} (hk : k ∈ nextM h (maskOf o)) : CanGo h (o ++ [k]) := by
  rw [← next_mask c] at hk
  obtain ⟨h1, r, hr, hm⟩ := mem_nextL hk
  exact c.snoc h1 hr hm
/-! part p_pre30 -/
/-! all orders that may be gone, each ahead of those that go on with it -/
theorem left_ind {h : House} {P : Nat → Prop} (s : ∀ m, (∀ k ∈ nextM h m, P (m + 2 ^ k)) → P m) : ∀ m, P m := by
  have key : ∀ n m, leftM h m ≤ n → P m := by
    intro n
    induction n with
    | zero =>
      intro m hm
      exact s m fun k hk => by
        obtain ⟨h1, h2⟩ := mem_nextM hk
        have := left_step h1 h2
        omega
    | succ n ih =>
      intro m hm
      exact s m fun k hk => ih _ (by
        obtain ⟨h1, h2⟩ := mem_nextM hk
        have := left_step h1 h2
        omega)
  exact fun m => key _ m (Nat.le_refl _)
def preF (h : House) : Nat → Nat → List Nat → List (List Nat)
  | 0, _, o => [o]
  | f + 1, m, o => o :: (nextM h m).flatMap fun k => preF h f (m + 2 ^ k) (o ++ [k])
def preM (h : House) (m : Nat) (o : List Nat) : List (List Nat) := preF h (leftM h m) m o
theorem next_none {h : House} {m : Nat} (e : leftM h m = 0) : nextM h m = [] := by
  refine List.eq_nil_iff_forall_not_mem.mpr fun k hk => ?_
  obtain ⟨h1, h2⟩ := mem_nextM hk
  have := left_step h1 h2
  omega
theorem preM_eq (h : House) (m : Nat) (o : List Nat) : preM h m o = o :: (nextM h m).flatMap fun k => preM h (m + 2 ^ k) (o ++ [k]) := by
  unfold preM
  cases e : leftM h m with
  | zero => rw [next_none e]; rfl
  | succ f =>
    show o :: (nextM h m).flatMap (fun k => preF h f (m + 2 ^ k) (o ++ [k])) = _
    congr 1
    rw [List.flatMap_def, List.flatMap_def]
    congr 1
    refine List.map_congr_left fun k hk => ?_
    obtain ⟨h1, h2⟩ := mem_nextM hk
    have := left_step h1 h2
    rw [show leftM h (m + 2 ^ k) = f by omega]
theorem pre_go {h : House} : ∀ (m : Nat) (o : List Nat), maskOf o = m → CanGo h o → ∀ x ∈ preM h m o, CanGo h x := by
  refine left_ind (h := h) fun m ih => ?_
  intro o ho cg x hx
  rw [preM_eq] at hx
  rcases List.mem_cons.mp hx with rfl | hx
  · exact cg
  · obtain ⟨k, hk, hx⟩ := List.mem_flatMap.mp hx
    exact ih k hk (o ++ [k]) (by rw [maskOf_snoc, ho]; omega) (canGo_mask28 cg (by rw [ho]; exact hk)) x hx
/-- how many they may be -/
def cntO : Nat → Nat
  | 0 => 1
  | f + 1 => 1 + (f + 1) * cntO f
theorem next_left (h : House) (m : Nat) : (nextM h m).length ≤ leftM h m := by
  have e : nextM h m = ((List.range h.2.length).filter fun i => !m.testBit i).filter (freeM h m) := by
    unfold nextM
    rw [List.filter_filter]
    refine List.filter_congr fun i _ => ?_
    unfold freeM
    cases m.testBit i <;> simp
  rw [e]
  exact List.length_filter_le ..
theorem pre_len {h : House} : ∀ (f m : Nat) (o : List Nat), leftM h m = f → (preM h m o).length ≤ cntO f
  | 0, m, o, e => by rw [preM_eq, next_none e]; exact Nat.le_refl _
  | f + 1, m, o, e => by
    rw [preM_eq, List.length_cons, List.length_flatMap]
    have hn := next_left h m
    have hs : ∀ ks : List Nat, (∀ k ∈ ks, k ∈ nextM h m) → (ks.map fun k => (preM h (m + 2 ^ k) (o ++ [k])).length).sum ≤ ks.length * cntO f := fun ks => by
      induction ks with
      | nil => intro _; exact Nat.zero_le _
      | cons k ks ih =>
        intro hk
        obtain ⟨h1, h2⟩ := mem_nextM (hk k (List.mem_cons_self ..))
        have h3 := left_step h1 h2
        have h4 := pre_len (h := h) f (m + 2 ^ k) (o ++ [k]) (by omega)
        have h5 := ih fun x hx => hk x (List.mem_cons_of_mem _ hx)
        rw [List.map_cons, List.sum_cons, List.length_cons, Nat.succ_mul]
        omega
    have h6 := hs (nextM h m) fun k hk => hk
    have h7 : (nextM h m).length * cntO f ≤ (f + 1) * cntO f := Nat.mul_le_mul_right _ (by omega)
    show _ + 1 ≤ 1 + (f + 1) * cntO f
    omega
/-! part p_lord28 -/
/-! all orders, as the law makes them -/
def prePile (h : House) (pile : List (List Nat)) : List (List Nat) := pile.reverse.flatMap fun o => preM h (maskOf o) o
theorem prePile_len (h : House) (pile : List (List Nat)) : pile.length ≤ (prePile h pile).length := by
  unfold prePile
  rw [List.length_flatMap, ← List.length_reverse (as := pile)]
  generalize pile.reverse = l
  induction l with
  | nil => exact Nat.le_refl _
  | cons o l ih =>
    rw [List.map_cons, List.sum_cons, List.length_cons, preM_eq, List.length_cons]
    omega
theorem prePile_pop (h : House) (ws : List (List Nat)) (w : List Nat) : prePile h (ws.concat w) = w :: prePile h (ws ++ (nextM h (maskOf w)).reverse.map fun k => w ++ [k]) := by
  unfold prePile
  rw [List.concat_eq_append, List.reverse_append, List.reverse_singleton, List.singleton_append, List.flatMap_cons, preM_eq, List.reverse_append, ← List.map_reverse, List.reverse_reverse, List.flatMap_append, List.cons_append]
  congr 2
  rw [List.flatMap_map]
  rw [List.flatMap_def, List.flatMap_def]
  congr 1
  refine List.map_congr_left fun k _ => ?_
  rw [maskOf_snoc, Nat.add_comm]
theorem cntO_six : cntO 6 = 1957 := by decide
theorem cntO_mono : ∀ {a b : Nat}, a ≤ b → cntO a ≤ cntO b := fun {a b} h => by
  induction h with
  | refl => exact Nat.le_refl _
  | @step b _ ih =>
    have : cntO (b + 1) = 1 + (b + 1) * cntO b := rfl
    have h2 : cntO b ≤ (b + 1) * cntO b := Nat.le_mul_of_pos_left _ (by omega)
    rw [this]
    exact Nat.le_trans ih (Nat.le_trans h2 (Nat.le_add_left _ _))
theorem canGo_len28 {h : House} {o : List Nat} (c : CanGo h o) : o.length ≤ h.2.length := by
  have := subset_length (l := o) (ks := List.range h.2.length) c.nd fun k hk => by
    obtain ⟨i, hi⟩ := List.mem_iff_getElem?.mp hk
    obtain ⟨r, hr, _⟩ := c.step i k hi
    exact List.mem_range.mpr (List.getElem?_eq_some_iff.mp hr).1
  rwa [List.length_range] at this
theorem lorders_use {h : House} {P : RV → List Cell → Prop} (sm : Small h) (hn : h.2.length ≤ 6) (q : P (.n (.lst ((preM h 0 []).map natsD))) []) : TT_law_orders [.d (houseD h)] [] P := by
  have szl : 100000 < sizeLine := by decide
  have hlen : (preM h 0 []).length ≤ 1957 := by
    have h1 := pre_len (h := h) (leftM h 0) 0 [] rfl
    have h2 := left_le h 0
    have h3 := cntO_mono (show leftM h 0 ≤ 6 by omega)
    rw [cntO_six] at h3
    exact Nat.le_trans h1 h3
  (first | simp_arith [TT_law_orders, tt_law_orders] | skip)
  refine ⟨by decide, ?_⟩
  refine ⟨fun n s => ∃ (done pile : List (List Nat)), (∀ o ∈ pile, CanGo h o) ∧ done ++ prePile h pile = preM h 0 [] ∧ n = (prePile h pile).length ∧ s = ⟨[some (.d (houseD h)), some (.r 0), some (.r 1), none, none], [.lst (done.map natsD), .lst (pile.map natsD)]⟩, ⟨_, [], [[]], (fun o ho => by rw [List.mem_singleton] at ho; subst ho; exact .nil h), by simp [prePile, maskOf], rfl, by simp [houseD, ksD, natsD]⟩, ?_⟩
  rintro n s ⟨done, pile, hcg, hall, rfl, rfl⟩
  have hd : done.length + (prePile h pile).length ≤ 1957 := by rw [← List.length_append, hall]; exact hlen
  have hpl := prePile_len h pile
  (first | simp_all_arith! [onSome_some] | skip)
  rcases List.eq_nil_or_concat pile with rfl | ⟨ws, w, rfl⟩
  · have : done = preM h 0 [] := by rw [← hall]; simp [prePile]
    (first | simp_arith [onSome_some] | skip)
    rw [this]
    exact q
  · rw [if_pos (by simp)]
    have cgw : CanGo h w := hcg w (by simp)
    have hwl := canGo_len28 cgw
    have epop := prePile_pop h ws w
    rw [epop] at hall hd ⊢
    rw [List.length_concat] at hpl
    rw [epop, List.length_cons] at hpl
    rw [List.length_cons] at hd
    refine ⟨natsD w, by simp, ?_⟩
    rw [show ((ws.concat w).map natsD).dropLast = ws.map natsD by simp]
    (first | simp_arith [natsD] | skip)
    refine ⟨by omega, ?_⟩
    refine lnext_use sm (by omega) (by omega) cgw ?_
    (first | simp_arith [natsD] | skip)
    rw [← List.map_reverse]
    refine lcW_map trivial (fun k : Nat => PyData.int (k : Int)) (fun _ => true) (fun k => natsD (w ++ [k])) (fun k hk R1 R2 h1 h2 => ?_) ?_
    · have h1 := h1 rfl
      simp only [natsD, List.map_append, List.map_cons, List.map_nil] at h1
      (first | simp_arith [natsD] | skip)
      exact ⟨by omega, by omega, h1⟩
    rw [List.filter_eq_self.mpr (fun _ _ => rfl), List.nil_append]
    have hnx := next_left h (maskOf w)
    have hlf := left_le h (maskOf w)
    have hpl2 := prePile_len h (ws ++ (nextM h (maskOf w)).reverse.map fun k => w ++ [k])
    rw [List.length_append, List.length_map] at hpl2
    refine ⟨_, rfl, by simp at hpl2 ⊢; omega, ⟨[some (.d (houseD h)), some (.r 0), some (.r 1), none, none], [.lst ((done ++ [w]).map natsD), .lst ((ws ++ (nextM h (maskOf w)).reverse.map fun k => w ++ [k]).map natsD)]⟩, (prePile h (ws ++ (nextM h (maskOf w)).reverse.map fun k => w ++ [k])).length, wk_pick (m := 0) [0, 2] [.lst ((done ++ [w]).map natsD), .lst ((ws ++ (nextM h (maskOf w)).reverse.map fun k => w ++ [k]).map natsD)] ?_ (by decide) (by decide) (by simp [subC, natsD, Function.comp_def]) (by simp) ?_ (by simp), Nat.lt_succ_self _, done ++ [w], _, ?_, ?_, rfl, rfl⟩
    · simp [SubQ, partQ, hasR, ksD, houseD, natsD]
      decide
    · rfl
    · intro o ho
      rcases List.mem_append.mp ho with ho | ho
      · exact hcg o (by simp [ho])
      · obtain ⟨k, hk, rfl⟩ := List.mem_map.mp ho
        exact canGo_mask28 cgw (List.mem_reverse.mp hk)
    · rw [List.append_assoc]
      exact hall
/-! part o_first -/
/-! the first order of each set of rooms that orders open -/
inductive GoM (h : House) : List Nat → Nat → Prop
  | nil : GoM h [] 0
  | snoc {o : List Nat} {m k : Nat} : GoM h o m → k ∈ nextM h m → GoM h (o ++ [k]) (2 ^ k + m)
theorem GoM.rm {h : House} {o : List Nat} {m : Nat} (g : GoM h o m) : RM h m := by
  induction g with
  | nil => exact .zero
  | snoc _ hk ih => exact .step ih hk
theorem RM.go {h : House} {m : Nat} (r : RM h m) : ∃ o, GoM h o m := by
  induction r with
  | zero => exact ⟨[], .nil⟩
  | step _ hk ih => obtain ⟨o, g⟩ := ih; exact ⟨_, g.snoc hk⟩
theorem left_zero (h : House) : leftM h 0 = h.2.length := by
  unfold leftM
  rw [List.filter_eq_self.mpr (fun i _ => by rw [Nat.zero_testBit]; rfl), List.length_range]
theorem left_next {h : House} {m k : Nat} (hk : k ∈ nextM h m) : leftM h (2 ^ k + m) + 1 = leftM h m := by
  obtain ⟨h1, h2⟩ := mem_nextM hk
  rw [Nat.add_comm (2 ^ k) m]
  exact left_step h1 h2
theorem GoM.len {h : House} {o : List Nat} {m : Nat} (g : GoM h o m) : o.length + leftM h m = h.2.length := by
  induction g with
  | nil => rw [left_zero]; simp
  | @snoc o m k _ hk ih =>
    have := left_next hk
    rw [List.length_append, List.length_singleton]; omega
/-- orders as lists of ints, by their order -/
def zO (o : List Nat) : List Int := o.map fun k : Nat => (k : Int)
def leO (a b : List Nat) : Prop := zO a ≤ zO b
theorem leO.refl (a : List Nat) : leO a a := List.le_refl _
theorem leO.trans {a b c : List Nat} (h : leO a b) (k : leO b c) : leO a c := List.le_trans h k
theorem zO_inj : ∀ {a b : List Nat}, zO a = zO b → a = b
  | [], [], _ => rfl
  | [], _ :: _, e => nomatch e
  | _ :: _, [], e => nomatch e
  | x :: a, y :: b, e => by
    unfold zO at e
    rw [List.map_cons, List.map_cons, List.cons.injEq] at e
    rw [zO_inj (show zO a = zO b from e.2), show x = y by have := e.1; omega]
theorem leO.antisymm {a b : List Nat} (h : leO a b) (k : leO b a) : a = b := zO_inj (List.le_antisymm h k)
theorem leO.snoc : ∀ {a b : List Nat} (k : Nat), a.length = b.length → leO a b → leO (a ++ [k]) (b ++ [k])
  | [], [], k, _, _ => leO.refl _
  | [], _ :: _, _, h, _ => by cases h
  | _ :: _, [], _, h, _ => by cases h
  | x :: a, y :: b, k, h, hl => by
    unfold leO zO at *
    rw [List.map_cons, List.map_cons, List.cons_le_cons_iff] at hl
    rw [List.cons_append, List.cons_append, List.map_cons, List.map_cons, List.cons_le_cons_iff]
    rcases hl with hl | ⟨e, hl⟩
    · exact .inl hl
    · exact .inr ⟨e, leO.snoc k (by simpa using h) hl⟩
def FirstG (h : House) (m : Nat) (o : List Nat) : Prop := GoM h o m ∧ ∀ o', GoM h o' m → leO o o'
theorem FirstG.one {h : House} {m : Nat} {a b : List Nat} (x : FirstG h m a) (y : FirstG h m b) : a = b := (x.2 b y.1).antisymm (y.2 a x.1)
/-! ### a table: keys, and an order for each -/
def at2 (ks : List Nat) (os : List (List Nat)) (m : Nat) : Option (List Nat) := if m ∈ ks then os[posK ks m]? else none
theorem posK_at {ks : List Nat} {m : Nat} : m ∈ ks → ks[posK ks m]? = some m := fun h => by
  induction ks with
  | nil => cases h
  | cons j ks ih =>
    rw [posK]
    by_cases e : j = m
    · rw [if_pos e, List.getElem?_cons_zero, e]
    · rw [if_neg e, List.getElem?_cons_succ]
      exact ih ((List.mem_cons.mp h).resolve_left (fun z => e z.symm))
theorem posK_app {ks : List Nat} {m : Nat} (x : Nat) : m ∈ ks → posK (ks ++ [x]) m = posK ks m := fun h => by
  induction ks with
  | nil => cases h
  | cons j ks ih =>
    rw [List.cons_append, posK, posK]
    by_cases e : j = m
    · rw [if_pos e, if_pos e]
    · rw [if_neg e, if_neg e, ih ((List.mem_cons.mp h).resolve_left (fun z => e z.symm))]
theorem posK_new {ks : List Nat} {m : Nat} : m ∉ ks → posK (ks ++ [m]) m = ks.length := fun h => by
  induction ks with
  | nil => rw [List.nil_append, posK, if_pos rfl]; rfl
  | cons j ks ih =>
    have e : j ≠ m := fun z => h (z ▸ List.mem_cons_self ..)
    rw [List.cons_append, posK, if_neg e, ih (fun z => h (List.mem_cons_of_mem _ z)), List.length_cons]
theorem at2_mem {ks : List Nat} {os : List (List Nat)} {m : Nat} {o : List Nat} (h : at2 ks os m = some o) : m ∈ ks := by
  unfold at2 at h
  split at h
  · assumption
  · cases h
theorem at2_some {ks : List Nat} {os : List (List Nat)} {m : Nat} (hl : ks.length = os.length) (hm : m ∈ ks) : ∃ o, at2 ks os m = some o ∧ os[posK ks m]? = some o := by
  unfold at2
  rw [if_pos hm]
  have := posK_lt hm
  exact ⟨os[posK ks m], List.getElem?_eq_getElem (by omega), List.getElem?_eq_getElem (by omega)⟩
theorem at2_put {ks : List Nat} {os : List (List Nat)} {m x : Nat} {o : List Nat} (hl : ks.length = os.length) : at2 (putKs ks m) (putTs ks os m o) x = if x = m then some o else at2 ks os x := by
  unfold at2 putKs putTs
  by_cases hm : m ∈ ks
  · rw [if_pos hm, if_pos hm]
    have hp := posK_lt hm
    by_cases hx : x ∈ ks
    · rw [if_pos hx, if_pos hx]
      by_cases e : x = m
      · subst e
        rw [if_pos rfl, List.getElem?_set_self (by omega)]
      · rw [if_neg e, List.getElem?_set_ne]
        intro z
        have h1 := posK_at hm
        rw [z, posK_at hx] at h1
        exact e (Option.some.inj h1)
    · rw [if_neg hx, if_neg hx, if_neg (fun z : x = m => hx (z ▸ hm))]
  · rw [if_neg hm, if_neg hm]
    by_cases hx : x ∈ ks
    · have hp := posK_lt hx
      rw [if_pos (List.mem_append_left _ hx), if_pos hx, if_neg (fun z : x = m => hm (z ▸ hx)), posK_app _ hx, List.getElem?_append_left (by omega)]
    · by_cases e : x = m
      · subst e
        rw [if_pos (by simp), if_pos rfl, posK_new hm, hl, List.getElem?_append_right (Nat.le_refl _)]
        simp
      · rw [if_neg (by simp [hx, e]), if_neg e, if_neg hx]
theorem mem_putKs {ks : List Nat} {m x : Nat} : x ∈ putKs ks m ↔ x ∈ ks ∨ x = m := by
  unfold putKs
  split
  · rename_i hm
    exact ⟨.inl, fun z => z.elim id fun e => e ▸ hm⟩
  · rw [List.mem_append, List.mem_singleton]
theorem nodup_putKs {ks : List Nat} {m : Nat} (h : ks.Nodup) : (putKs ks m).Nodup := by
  unfold putKs
  split
  · exact h
  · rename_i hm
    exact List.nodup_append.mpr ⟨h, by simp, fun a ha b hb => by rw [List.mem_singleton] at hb; subst hb; exact fun e => hm (e ▸ ha)⟩
structure Tb (h : House) (ks : List Nat) (os : List (List Nat)) : Prop where
  len : ks.length = os.length
  nd : ks.Nodup
  go : ∀ m o, at2 ks os m = some o → GoM h o m
  z : 0 ∈ ks
theorem Tb.put {h : House} {ks : List Nat} {os : List (List Nat)} {m : Nat} {o : List Nat} (T : Tb h ks os) (g : GoM h o m) : Tb h (putKs ks m) (putTs ks os m o) := by
  refine ⟨putKs_len T.len, nodup_putKs T.nd, fun x o' e => ?_, mem_putKs.mpr (.inl T.z)⟩
  rw [at2_put T.len] at e
  split at e
  · rename_i hx
    cases e; subst hx; exact g
  · exact T.go x o' e
theorem Tb.rm {h : House} {ks : List Nat} {os : List (List Nat)} {m : Nat} (T : Tb h ks os) (hm : m ∈ ks) : RM h m := by
  obtain ⟨o, e, _⟩ := at2_some T.len hm
  exact (T.go m o e).rm
theorem Tb.size {h : House} {ks : List Nat} {os : List (List Nat)} (T : Tb h ks os) : ks.length ≤ 2 ^ h.2.length := by
  have := T.nd.length_le_of_subset (l₂ := List.range (2 ^ h.2.length)) fun x hx => List.mem_range.mpr (T.rm hx).lt
  rwa [List.length_range] at this
/-- the way from x to k was looked at -/
def SeenV (h : House) (ks : List Nat) (os : List (List Nat)) (x k : Nat) : Prop := ∃ o, at2 ks os (2 ^ k + x) = some o ∧ ∀ o', GoM h o' x → leO o (o' ++ [k])
def DoneV (h : House) (ks : List Nat) (os : List (List Nat)) (x : Nat) : Prop := ∀ k ∈ nextM h x, SeenV h ks os x k
structure LayI (h : House) (ks : List Nat) (os : List (List Nat)) (c : Nat) (ls fu : List Nat) : Prop where
  tb : Tb h ks os
  dn : ∀ x ∈ ks, x ∈ ls ∨ x ∈ fu ∨ DoneV h ks os x
  lls : ∀ x ∈ ls, x ∈ ks ∧ leftM h x = c
  lfu : ∀ x ∈ fu, x ∈ ks ∧ leftM h x + 1 = c
  nfu : fu.Nodup
  fst : ∀ x ∈ ks, c ≤ leftM h x → ∃ o, at2 ks os x = some o ∧ FirstG h x o
  low : ∀ x ∈ ks, c ≤ leftM h x ∨ x ∈ fu
  al : ∀ x, RM h x → c ≤ leftM h x → x ∈ ks
structure TurnI (h : House) (ks : List Nat) (os : List (List Nat)) (c m : Nat) (ls fu : List Nat) (j : Nat) : Prop where
  tb : Tb h ks os
  dn : ∀ x ∈ ks, x = m ∨ x ∈ ls ∨ x ∈ fu ∨ DoneV h ks os x
  mm : m ∈ ks ∧ leftM h m = c
  lls : ∀ x ∈ ls, x ∈ ks ∧ leftM h x = c
  lfu : ∀ x ∈ fu, x ∈ ks ∧ leftM h x + 1 = c
  nfu : fu.Nodup
  fst : ∀ x ∈ ks, c ≤ leftM h x → ∃ o, at2 ks os x = some o ∧ FirstG h x o
  low : ∀ x ∈ ks, c ≤ leftM h x ∨ x ∈ fu
  al : ∀ x, RM h x → c ≤ leftM h x → x ∈ ks
  pr : ∀ (j' y : Nat), j' < j → (nextM h m)[j']? = some y → SeenV h ks os m y
section
variable {h : House} {ks : List Nat} {os : List (List Nat)} {c m : Nat} {ls fu : List Nat} {j : Nat}
theorem LayI.turn (L : LayI h ks os c (m :: ls) fu) : TurnI h ks os c m ls fu 0 :=
  ⟨L.tb, fun x hx => (L.dn x hx).elim (fun z => (List.mem_cons.mp z).elim .inl fun z => .inr (.inl z)) fun z => .inr (.inr z), L.lls m (List.mem_cons_self ..), fun x hx => L.lls x (List.mem_cons_of_mem _ hx), L.lfu, L.nfu, L.fst, L.low, L.al, fun j' y hj => absurd hj (Nat.not_lt_zero _)⟩
theorem TurnI.done (T : TurnI h ks os c m ls fu (nextM h m).length) : LayI h ks os c ls fu := by
  refine ⟨T.tb, fun x hx => ?_, T.lls, T.lfu, T.nfu, T.fst, T.low, T.al⟩
  rcases T.dn x hx with rfl | z
  · refine .inr (.inr fun y hy => ?_)
    obtain ⟨j, hj⟩ := List.mem_iff_getElem?.mp hy
    exact T.pr j y (List.getElem?_eq_some_iff.mp hj).1 hj
  · exact z
theorem TurnI.val (T : TurnI h ks os c m ls fu j) : ∃ o, at2 ks os m = some o ∧ FirstG h m o := T.fst m T.mm.1 (Nat.le_of_eq T.mm.2.symm)
/-- nothing changes -/
theorem TurnI.keep {k : Nat} {om old : List Nat} (T : TurnI h ks os c m ls fu j) (hk : (nextM h m)[j]? = some k) (hom : FirstG h m om) (ho : at2 ks os (2 ^ k + m) = some old) (hle : leO old (om ++ [k])) : TurnI h ks os c m ls fu (j + 1) := by
  refine ⟨T.tb, T.dn, T.mm, T.lls, T.lfu, T.nfu, T.fst, T.low, T.al, fun j' y hj hy => ?_⟩
  by_cases e : j' = j
  · subst e
    rw [hk] at hy; cases hy
    exact ⟨old, ho, fun o' g => hle.trans (leO.snoc k (by have := hom.1.len; have := g.len; omega) (hom.2 o' g))⟩
  · exact T.pr j' y (by omega) hy
/-- an order is put down -/
theorem TurnI.put {k : Nat} {om : List Nat} (T : TurnI h ks os c m ls fu j) (hk : (nextM h m)[j]? = some k) (hom : FirstG h m om) (ho : ∀ old, at2 ks os (2 ^ k + m) = some old → leO (om ++ [k]) old) (fu2 : List Nat) (hfu : (2 ^ k + m ∈ ks ∧ fu2 = fu) ∨ (2 ^ k + m ∉ ks ∧ fu2 = fu ++ [2 ^ k + m])) :
    TurnI h (putKs ks (2 ^ k + m)) (putTs ks os (2 ^ k + m) (om ++ [k])) c m ls fu2 (j + 1) := by
  have hkn := List.mem_of_getElem? hk
  have hl := left_next hkn
  have hmc := T.mm.2
  have hput := fun x => at2_put (x := x) (m := 2 ^ k + m) (o := om ++ [k]) T.tb.len
  have up : ∀ x, x ∈ ks → x ∈ putKs ks (2 ^ k + m) := fun x hx => mem_putKs.mpr (.inl hx)
  have seen : ∀ x y, SeenV h ks os x y → SeenV h (putKs ks (2 ^ k + m)) (putTs ks os (2 ^ k + m) (om ++ [k])) x y := fun x y ⟨o, e, hq⟩ => by
    by_cases ex : 2 ^ y + x = 2 ^ k + m
    · refine ⟨om ++ [k], by rw [hput, if_pos ex], fun o' g => ?_⟩
      rw [ex] at e
      exact (ho o e).trans (hq o' g)
    · exact ⟨o, by rw [hput, if_neg ex]; exact e, hq⟩
  have hfu2 : ∀ x ∈ fu2, x ∈ fu ∨ x = 2 ^ k + m := fun x hx => by
    rcases hfu with ⟨_, rfl⟩ | ⟨_, rfl⟩
    · exact .inl hx
    · rcases List.mem_append.mp hx with hx | hx
      · exact .inl hx
      · exact .inr (List.mem_singleton.mp hx)
  have fuU : ∀ x ∈ fu, x ∈ fu2 := fun x hx => by
    rcases hfu with ⟨_, rfl⟩ | ⟨_, rfl⟩
    · exact hx
    · exact List.mem_append_left _ hx
  have thf : 2 ^ k + m ∈ fu2 := by
    rcases hfu with ⟨hin, rfl⟩ | ⟨_, rfl⟩
    · rcases T.low _ hin with z | z
      · omega
      · exact z
    · simp
  refine ⟨T.tb.put (hom.1.snoc hkn), fun x hx => ?_, ⟨up _ T.mm.1, hmc⟩, fun x hx => ⟨up _ (T.lls x hx).1, (T.lls x hx).2⟩, fun x hx => ?_, ?_, fun x hx hc => ?_, fun x hx => ?_, fun x r hc => up _ (T.al x r hc), fun j' y hj hy => ?_⟩
  · rcases mem_putKs.mp hx with hx | rfl
    · rcases T.dn x hx with z | z | z | z
      · exact .inl z
      · exact .inr (.inl z)
      · exact .inr (.inr (.inl (fuU x z)))
      · exact .inr (.inr (.inr fun y hy => seen x y (z y hy)))
    · exact .inr (.inr (.inl thf))
  · rcases hfu2 x hx with hx | rfl
    · exact ⟨up _ (T.lfu x hx).1, (T.lfu x hx).2⟩
    · exact ⟨mem_putKs.mpr (.inr rfl), by omega⟩
  · rcases hfu with ⟨_, rfl⟩ | ⟨hn, rfl⟩
    · exact T.nfu
    · exact List.nodup_append.mpr ⟨T.nfu, by simp, fun a ha b hb => by rw [List.mem_singleton] at hb; subst hb; exact fun e => hn (e ▸ (T.lfu a ha).1)⟩
  · have hne : x ≠ 2 ^ k + m := fun z => by subst z; omega
    rcases mem_putKs.mp hx with hx | z
    · rw [hput, if_neg hne]; exact T.fst x hx hc
    · exact absurd z hne
  · rcases mem_putKs.mp hx with hx | rfl
    · rcases T.low x hx with z | z
      · exact .inl z
      · exact .inr (fuU x z)
    · exact .inr thf
  · by_cases e : j' = j
    · subst e
      rw [hk] at hy; cases hy
      exact ⟨om ++ [k], by rw [hput, if_pos rfl], fun o' g => leO.snoc k (by have := hom.1.len; have := g.len; omega) (hom.2 o' g)⟩
    · exact seen m y (T.pr j' y (by omega) hy)
theorem LayI.seen (L : LayI h ks os c [] fu) {x : Nat} (hx : x ∈ ks) (hc : c ≤ leftM h x) : DoneV h ks os x := by
  rcases L.dn x hx with z | z | z
  · cases z
  · have := (L.lfu x z).2
    omega
  · exact z
theorem first_of {x : Nat} {o : List Nat} (g : GoM h o x) (e : at2 ks os x = some o) (pre : ∀ y k, RM h y → k ∈ nextM h y → 2 ^ k + y = x → SeenV h ks os y k) : FirstG h x o := by
  refine ⟨g, fun o' g' => ?_⟩
  cases g' with
  | nil =>
    have h1 := g.len
    rw [left_zero] at h1
    rw [List.eq_nil_of_length_eq_zero (l := o) (by omega)]
    exact leO.refl _
  | @snoc o2 y k g2 hk =>
    obtain ⟨o3, e3, hq⟩ := pre y k g2.rm hk rfl
    rw [e] at e3; cases e3
    exact hq o2 g2
/-- the next layer -/
theorem LayI.next (L : LayI h ks os (c + 1) [] fu) : LayI h ks os c fu [] := by
  have hal : ∀ x, RM h x → c ≤ leftM h x → x ∈ ks := fun x r hc => by
    cases r with
    | zero => exact L.tb.z
    | @step y k r hk =>
      have h1 := left_next hk
      have hy := L.al y r (by omega)
      obtain ⟨o, e, _⟩ := L.seen hy (by omega) k hk
      exact at2_mem e
  refine ⟨L.tb, fun x hx => ?_, fun x hx => ⟨(L.lfu x hx).1, by have := (L.lfu x hx).2; omega⟩, (fun _ h => nomatch h), List.nodup_nil, fun x hx hc => ?_, fun x hx => .inl ?_, hal⟩
  · rcases L.dn x hx with z | z
    · cases z
    · exact z.imp id .inr
  · obtain ⟨o, e, _⟩ := at2_some L.tb.len hx
    refine ⟨o, e, first_of (L.tb.go x o e) e fun y k r hk hx => ?_⟩
    have h1 := left_next hk
    rw [hx] at h1
    exact L.seen (L.al y r (by omega)) (by omega) k hk
  · rcases L.low x hx with z | z
    · omega
    · have := (L.lfu x z).2; omega
structure Fin1 (h : House) (ks : List Nat) (os : List (List Nat)) : Prop where
  tb : Tb h ks os
  al : ∀ x, RM h x → x ∈ ks
  fst : ∀ x ∈ ks, ∃ o, at2 ks os x = some o ∧ FirstG h x o
theorem LayI.fin (L : LayI h ks os c [] []) : Fin1 h ks os := by
  have hd : ∀ x ∈ ks, DoneV h ks os x := fun x hx => (L.dn x hx).elim (fun z => nomatch z) fun z => z.elim (fun z => nomatch z) id
  have hal : ∀ x, RM h x → x ∈ ks := fun x r => by
    induction r with
    | zero => exact L.tb.z
    | step _ hk ih =>
      obtain ⟨o, e, _⟩ := hd _ ih _ hk
      exact at2_mem e
  refine ⟨L.tb, hal, fun x hx => ?_⟩
  obtain ⟨o, e, _⟩ := at2_some L.tb.len hx
  exact ⟨o, e, first_of (L.tb.go x o e) e fun y k r hk hx => hd y (hal y r) k hk⟩
theorem LayI.start (h : House) : LayI h [0] [[]] h.2.length [0] [] := by
  have ha : at2 [0] [[]] 0 = some ([] : List Nat) := rfl
  have fg : FirstG h 0 [] := ⟨.nil, fun o' g => by
    have h1 := g.len
    rw [left_zero] at h1
    rw [List.eq_nil_of_length_eq_zero (l := o') (by omega)]
    exact leO.refl _⟩
  refine ⟨⟨rfl, by simp, fun m o e => ?_, by simp⟩, fun x hx => .inl hx, fun x hx => ⟨hx, ?_⟩, (fun _ h => nomatch h), List.nodup_nil, fun x hx _ => ?_, fun x hx => .inl ?_, fun x r hc => ?_⟩
  · have := List.mem_singleton.mp (at2_mem e)
    subst this
    rw [ha] at e; cases e; exact .nil
  · rw [List.mem_singleton] at hx; subst hx; exact left_zero h
  · rw [List.mem_singleton] at hx; subst hx
    exact ⟨[], ha, fg⟩
  · rw [List.mem_singleton] at hx; subst hx; rw [left_zero]; exact Nat.le_refl _
  · cases r with
    | zero => simp
    | @step y k r hk =>
      have h1 := left_next hk
      have := left_le h y
      omega
end
/-! part p_ziT -/
/-! lists of ints as lists of our own, in a tree -/
def unint : PyData → Option Int
  | .int i => some i
  | _ => none
def unints : PyData → List Int
  | .list ds => ds.filterMap unint
  | _ => []
theorem unints_intL (o : List Int) : unints (intL o) = o := by
  show (o.map PyData.int).filterMap unint = o
  induction o with
  | nil => rfl
  | cons a o ih => rw [List.map_cons, List.filterMap_cons_some (show unint (.int a) = some a from rfl), ih]
def ziT (t : Tr) (g : List Int) : Prop := ∃ p, t = .nd .lst p ((g.map PyData.int).map Tr.d)
def IntC (c : Cell) (gs : List (List Int)) : Prop := (c = .lst [] ∧ gs = []) ∨ ∃ a ts, c = .tr (.nd .lst a ts) ∧ Paired ziT ts gs
theorem leafs_data : ∀ ds : List PyData, Tr.datas? (ds.map Tr.d) = some ds
  | [] => rfl
  | d :: ds => by
    rw [List.map_cons]
    unfold Tr.datas?
    rw [leafs_data ds]
    rfl
theorem ziT_data {t : Tr} {g : List Int} (h : ziT t g) : t.data? = some (intL g) := by
  obtain ⟨p, rfl⟩ := h
  show (Tr.datas? ((g.map PyData.int).map Tr.d)).map PyData.list = _
  rw [leafs_data]; rfl
theorem ziTs_data {ts : List Tr} {gs : List (List Int)} (h : Paired ziT ts gs) : Tr.datas? ts = some (gs.map intL) := by
  induction h with
  | nil => rfl
  | cons h t ih =>
    unfold Tr.datas?
    rw [ziT_data h, ih]; rfl
theorem IntC.data {c : Cell} {gs : List (List Int)} (h : IntC c gs) : cellD c = some (.list (gs.map intL)) := by
  rcases h with ⟨rfl, rfl⟩ | ⟨a, ts, rfl, h⟩
  · rfl
  · show (Tr.datas? ts).map PyData.list = _
    rw [ziTs_data h]; rfl
theorem IntC.kids {c : Cell} {gs : List (List Int)} (h : IntC c gs) : ∃ ts, kidsC c = some ts ∧ Paired ziT ts gs := by
  rcases h with ⟨rfl, rfl⟩ | ⟨a, ts, rfl, h⟩
  · exact ⟨[], rfl, .nil⟩
  · exact ⟨ts, rfl, h⟩
theorem ziT_trD {t : Tr} {g : List Int} (h : ziT t g) : trD t = intL g := by unfold trD; rw [ziT_data h]; rfl
theorem ziTs_trD {ts : List Tr} {gs : List (List Int)} (h : Paired ziT ts gs) : ts.map trD = gs.map intL := by
  induction h with
  | nil => rfl
  | cons h t ih => rw [List.map_cons, List.map_cons, ziT_trD h, ih]
theorem ziTs_mem {ts : List Tr} {gs : List (List Int)} (h : Paired ziT ts gs) : ∀ t ∈ ts, ∃ g, ziT t g := by
  induction h with
  | nil => intro t ht; cases ht
  | cons h t ih =>
    intro u hu
    rcases List.mem_cons.mp hu with rfl | hu
    · exact ⟨_, h⟩
    · exact ih u hu
theorem ziTs_of : ∀ {ts : List Tr} {gs : List (List Int)}, ts.map trD = gs.map intL → (∀ t ∈ ts, ∃ g, ziT t g) → Paired ziT ts gs
  | [], [], _, _ => .nil
  | [], _ :: _, e, _ => by cases e
  | _ :: _, [], e, _ => by cases e
  | t :: ts, g :: gs, e, h => by
    rw [List.map_cons, List.map_cons, List.cons.injEq] at e
    obtain ⟨g', hg⟩ := h t (List.mem_cons_self ..)
    have e2 : g' = g := by
      have e3 := e.1
      rw [ziT_trD hg] at e3
      rw [← unints_intL g', e3, unints_intL]
    exact .cons (e2 ▸ hg) (ziTs_of e.2 fun u hu => h u (List.mem_cons_of_mem _ hu))
theorem sort_trD (ts : List Tr) : (sortTs ts).map trD = (ts.map trD).mergeSort (PySem.W.dataLe false id) := by
  unfold sortTs
  exact List.map_mergeSort fun a _ b _ => rfl
theorem sort_ziT {ts : List Tr} {L : List (List Int)} (k : Paired ziT ts L) : Paired ziT (sortTs ts) (sortN L) := by
  refine ziTs_of ?_ fun t ht => ziTs_mem k t ((List.mergeSort_perm _ _).mem_iff.mp ht)
  rw [sort_trD, ziTs_trD k, sortN_D]
/-! part o_setsT -/
/-! all sets of rooms that orders open, each with its first order, as a tree of our own -/
def kI (m : Nat) : Key := .inl (m : Int)
theorem kI_inj {a b : Nat} (e : kI a = kI b) : a = b := by have := Sum.inl.inj e; omega
theorem dataLt_intL (a b : List Int) : PySem.W.dataLt (intL a) (intL b) = decide (a < b) := by
  have e := congrFun (congrFun (PySem.W.dataLe_rows (fun b : List Int => b)) b) a
  have e2 : PySem.W.dataLe false (fun b : List Int => PyData.list (b.map .int)) b a = !PySem.W.dataLt (intL a) (intL b) := rfl
  rw [e2] at e
  by_cases hab : a < b
  · have : ¬ b ≤ a := fun z => absurd hab (List.not_lt.mpr z)
    simp [hab, this] at e ⊢
    exact e
  · have : b ≤ a := List.not_lt.mp hab
    simp [hab, this] at e ⊢
    exact e
theorem ltDT_at {a b : List Int} {x y : AVal} {s : AS} {Q : Bool → AS → Prop} (hx : dataOf s x = some (intL a)) (hy : dataOf s y = some (intL b)) (q : Q (decide (a < b)) s) : ltDT x y s Q := by
  refine ⟨intL a, hx, intL b, hy, ⟨?_, by simp [intL], Nat.le_trans (lay_intL a).2 (by decide), (lay_intL a).1, (lay_intL b).1⟩, ?_⟩
  · show PySem.W.alike (.list _) (.list _) = true
    simp only [PySem.W.alike]
    exact alike_intL a b
  rw [dataLt_intL]; exact q
theorem getA_kids {α : Type} {m : Nat} : ∀ {ks : List Nat} {xs : List α}, ks.length = xs.length → getA ((ks.map kI).zip xs) (kI m) = if m ∈ ks then xs[posK ks m]? else none
  | [], _, _ => rfl
  | j :: ks, [], h => by cases h
  | j :: ks, x :: xs, h => by
    have ih := getA_kids (m := m) (ks := ks) (xs := xs) (by simpa using h)
    unfold getA at *
    rw [List.map_cons, List.zip_cons_cons, List.find?_cons, posK]
    by_cases e : j = m
    · subst e
      rw [if_pos (List.mem_cons_self ..), if_pos rfl, decide_eq_true rfl]
      rfl
    · rw [decide_eq_false (fun z => e (kI_inj z)), if_neg e, List.getElem?_cons_succ]
      dsimp only
      rw [ih]
      have : (m ∈ j :: ks) = (m ∈ ks) := propext ⟨fun z => (List.mem_cons.mp z).resolve_left (fun z => e z.symm), List.mem_cons_of_mem _⟩
      simp only [this]
theorem zi_at : ∀ {ts : List Tr} {gs : List (List Int)} {i : Nat} {g : List Int}, Paired ziT ts gs → gs[i]? = some g → ∃ a, ts[i]? = some (.nd .lst a ((g.map PyData.int).map Tr.d)) := fun {ts gs i g} h e => by
  induction h generalizing i with
  | nil => simp at e
  | cons h t ih =>
    cases i with
    | zero =>
      obtain ⟨a, rfl⟩ := h
      simp at e; subst e
      exact ⟨a, rfl⟩
    | succ i => simpa using ih (by simpa using e)
theorem node_kid {s : AS} {k : Kd} {pd a : Addr} {td us : List Tr} {i : Nat} (hc : s.cs[1]? = some (.tr (.nd k pd td))) (ht : td[i]? = some (.nd .lst a us)) : nodeAt s (.a a 1 [i]) = some (1, [i], .lst, a, us) := by
  unfold nodeAt
  simp only [hc]
  have : (Tr.nd k pd td).at [i] = some (.nd .lst a us) := ht
  rw [this]
  simp
theorem data_kid {s : AS} {k : Kd} {pd a : Addr} {td : List Tr} {i : Nat} {g : List Int} (hc : s.cs[1]? = some (.tr (.nd k pd td))) (ht : td[i]? = some (.nd .lst a ((g.map PyData.int).map Tr.d))) : dataOf s (.a a 1 [i]) = some (intL g) := by
  show (match nodeAt s (.a a 1 [i]) with | some (_, _, k, q, xs) => Tr.data? (.nd k q xs) | none => none) = _
  rw [node_kid hc ht]
  exact ziT_data ⟨a, rfl⟩
theorem posK_map (ks : List Nat) (m : Nat) : posK (ks.map kI) (kI m) = posK ks m := by
  induction ks with
  | nil => rfl
  | cons j ks ih =>
    rw [List.map_cons, posK, posK, ih]
    by_cases e : j = m
    · rw [if_pos e, if_pos (by rw [e])]
    · rw [if_neg e, if_neg (fun z => e (kI_inj z))]
theorem mem_kI {ks : List Nat} {m : Nat} : kI m ∈ ks.map kI ↔ m ∈ ks := by
  rw [List.mem_map]
  exact ⟨fun ⟨x, hx, e⟩ => kI_inj e ▸ hx, fun h => ⟨m, h, rfl⟩⟩
theorem putKs_map (ks : List Nat) (m : Nat) : putKs (ks.map kI) (kI m) = (putKs ks m).map kI := by
  unfold putKs
  by_cases h : m ∈ ks
  · rw [if_pos h, if_pos (mem_kI.mpr h)]
  · rw [if_neg h, if_neg (fun z => h (mem_kI.mp z)), List.map_append]; rfl
theorem paired_set {α β : Type} {R : α → β → Prop} {x : α} {y : β} (hr : R x y) : ∀ {xs : List α} {ys : List β} (i : Nat), Paired R xs ys → Paired R (xs.set i x) (ys.set i y)
  | _, _, _, .nil => .nil
  | _, _, 0, .cons _ t => .cons hr t
  | _, _, i + 1, .cons h t => .cons h (paired_set hr i t)
theorem put_zi {ks : List Nat} {os : List (List Nat)} {td : List Tr} {m : Nat} {o : List Nat} {t : Tr} (h : Paired ziT td (os.map zO)) (ht : ziT t (zO o)) : Paired ziT (putTs (ks.map kI) td (kI m) t) ((putTs ks os m o).map zO) := by
  unfold putTs
  by_cases hm : m ∈ ks
  · rw [if_pos hm, if_pos (mem_kI.mpr hm), posK_map, List.map_set]
    exact paired_set ht _ h
  · rw [if_neg hm, if_neg (fun z => hm (mem_kI.mp z)), List.map_append]
    exact paired_snoc h ht
theorem nodup_kI {ks : List Nat} (h : ks.Nodup) : (ks.map kI).Nodup := List.pairwise_map.mpr (h.imp fun hne e => hne (kI_inj e))
theorem sets_t_use {O : OT} {h : House} {P : RV → List Cell → Prop} (gd : GoodHouse h) (hn : h.2.length ≤ 12) (hz : (allL h).length ≤ 100000)
    (q : ∀ ks os p ts, Fin1 h ks os → Paired ziT ts (os.map zO) → P (.t (.nd (.dct (ks.map kI)) p ts)) []) : TT_sets_that_come_t O [.d (houseD h)] [] P := by
  have szl : 200000 < sizeLine := by decide
  have hp := pow12 hn
  have hl0 := left_le h 0
  have z0 : ((0 : Nat) = 1 + 1) = False := eq_false (by decide)
  (first | simp_arith [TT_sets_that_come_t, tt_sets_that_come_t] | skip)
  intro p dx
  refine init_house gd hn hz fun t st => ?_
  obtain ⟨dx, q0, ts, rfl⟩ := st.form
  (first | simp_all_arith! [onSome_some] | skip)
  intro f1
  (first | simp_all_arith! [onSome_some] | skip)
  intro f2
  (first | simp_all_arith! [onSome_some] | skip)
  simp only [z0, if_false]
  refine ⟨by omega, fun k s => ∃ t ks os c ls pd td, OpSt (allL h) h O.opened [] [] t ∧ LayI h ks os c ls [] ∧ (ls ≠ [] → k = c + 1) ∧ Paired ziT td (os.map zO) ∧ s = ⟨[some (.d (houseD h)), some (.r 0), some (.r 1), some (.r 3), none, none, none, none, none], [.tr t, .tr (.nd (.dct (ks.map kI)) pd td), .gone, .lst (ls.map fun k : Nat => .int (k : Int))]⟩, ⟨h.2.length + 1, _, [0], [[]], h.2.length, [0], _, _, st, LayI.start h, fun _ => rfl, .cons ⟨_, rfl⟩ .nil, rfl⟩, ?_⟩
  clear st q0 ts dx
  rintro k s ⟨t, ks, os, c, ls, pd, td, st, L, hk, htd, rfl⟩
  (first | simp_all_arith! [onSome_some] | skip)
  cases ls with
  | nil =>
    rw [if_neg (by simp), if_neg (by decide)]
    exact q ks os pd td L.fin htd
  | cons l0 ls0 =>
    rw [if_pos (by simp)]
    have hk1 := hk (List.cons_ne_nil _ _)
    clear hk
    generalize l0 :: ls0 = ls at L
    refine forW_map (fun k : Nat => PyData.int (k : Int)) ls (fun i s => ∃ t ks os fu pd td, OpSt (allL h) h O.opened [] [] t ∧ LayI h ks os c (ls.drop i) fu ∧ Paired ziT td (os.map zO) ∧ s = ⟨[some (.d (houseD h)), some (.r 0), some (.r 1), some (.r 3), some (.r 4), none, none, none, none], [.tr t, .tr (.nd (.dct (ks.map kI)) pd td), .gone, .fz (.list (ls.map fun k : Nat => .int (k : Int))), .lst (fu.map fun k : Nat => .int (k : Int))]⟩) ⟨t, ks, os, [], pd, td, st, L, htd, rfl⟩ ?_ ?_
    · clear st L htd t ks os pd td
      rintro i m s' N hx ⟨t, ks, os, fu, pd, td, st, L, htd, rfl⟩ hN
      have hdr : ls.drop i = m :: ls.drop (i + 1) := by
        rw [List.drop_eq_getElem_cons (List.getElem?_eq_some_iff.mp hx).1, (List.getElem?_eq_some_iff.mp hx).2]
      rw [hdr] at L
      have hmr := L.tb.rm (L.lls m (List.mem_cons_self ..)).1
      obtain ⟨dx, q0, ts, rfl⟩ := st.form
      (first | simp_all_arith! [lk_next_at, objN_o] | skip)
      refine next_at_use hz hn st hmr.lt fun t st => ?_
      obtain ⟨dx, q0, ts, rfl⟩ := st.form
      (first | simp_all_arith! [lk_next_at, objN_o] | skip)
      refine forW_map (fun k : Nat => PyData.int (k : Int)) (nextM h m) (fun j s => ∃ ks os fu pd td, TurnI h ks os c m (ls.drop (i + 1)) fu j ∧ Paired ziT td (os.map zO) ∧ s = ⟨[some (.d (houseD h)), some (.r 0), some (.r 1), some (.r 3), some (.r 4), some (.d (.int (m : Int))), none, none, none], [.tr (.nd (.obj O.opened dx opF) q0 ts), .tr (.nd (.dct (ks.map kI)) pd td), .gone, .fz (.list (ls.map fun k : Nat => .int (k : Int))), .lst (fu.map fun k : Nat => .int (k : Int))]⟩) ⟨ks, os, fu, pd, td, L.turn, htd, rfl⟩ ?_ ?_
      · clear L htd ks os fu pd td
        rintro j y s' N2 hy ⟨ks, os, fu, pd, td, T, htd, rfl⟩ hN2
        have hyn := List.mem_of_getElem? hy
        obtain ⟨b1, b2⟩ := mem_nextM hyn
        have hrm2 := RM.step hmr hyn
        obtain ⟨om, hom, hof⟩ := T.val
        have hlen : ks.length = (kids 1 [] td).length := by
          have h1 := Paired.len htd
          unfold kids
          rw [List.length_mapIdx, h1, List.length_map]; exact T.tb.len
        have hg : ∀ x o, at2 ks os x = some o → ∃ a, td[posK ks x]? = some (.nd .lst a (((zO o).map PyData.int).map Tr.d)) ∧ getA ((ks.map kI).zip (kids 1 [] td)) (.inl (x : Int)) = some (.a a 1 [posK ks x]) := fun x o e => by
          have hx := at2_mem e
          unfold at2 at e
          rw [if_pos hx] at e
          obtain ⟨a, ha⟩ := zi_at htd (by rw [List.getElem?_map, e]; rfl)
          refine ⟨a, ha, ?_⟩
          have := getA_kids (m := x) hlen
          rw [if_pos hx] at this
          refine this.trans ?_
          rw [kidsAt, ha]; rfl
        obtain ⟨am, ham, hgm⟩ := hg m om hom
        (first | simp_all_arith! [shlA, CPow, shl_one, hgm, ham, leafL, leafs_map, if_true] | skip)
        have eo : (zO om).map PyData.int ++ [PyData.int (y : Int)] = (zO (om ++ [y])).map PyData.int := by unfold zO; rw [List.map_append, List.map_append]; rfl
        rw [eo]
        have hsz := T.tb.size
        have hol := hof.1.len
        have hfn : fu.length ≤ 4096 := by
          have := T.nfu.length_le_of_subset (l₂ := List.range (2 ^ h.2.length)) fun x hx => List.mem_range.mpr (T.tb.rm (T.lfu x hx).1).lt
          rw [List.length_range] at this
          omega
        refine ⟨⟨by omega, by omega, by decide⟩, by omega, by first | omega | (unfold zO; simp only [List.length_map]; omega), ?_⟩
        have hom2 : ∀ s' : AS, dataOf ⟨s'.sl, s'.cs⟩ (.r 0) = dataOf s' (.r 0) := fun _ => rfl
        clear hom2
        have fin : ∀ (fu2 : List Nat), ((2 ^ y + m ∈ ks ∧ fu2 = fu) ∨ (2 ^ y + m ∉ ks ∧ fu2 = fu ++ [2 ^ y + m])) → (∀ old, at2 ks os (2 ^ y + m) = some old → leO (om ++ [y]) old) → putIO (varA 8) (varA 2) (varA 7) { nx := N2, rt := retP 0 P, bk := N, ct := N2 } ⟨[some (.d (houseD h)), some (.r 0), some (.r 1), some (.r 3), some (.r 4), some (.d (.int (m : Int))), some (.d (.int (y : Int))), some (.d (.int ((2 ^ y + m : Nat) : Int))), some (.r (1 + 1 + 1 + 1 + 1))], [.tr (.nd (.obj O.opened dx opF) q0 ts), .tr (.nd (.dct (ks.map kI)) pd td), .gone, .fz (.list (ls.map fun k : Nat => .int (k : Int))), .lst (fu2.map fun k : Nat => .int (k : Int)), .lst ((zO (om ++ [y])).map PyData.int)]⟩ := fun fu2 hfu hle => by
          (first | simp_arith [putIO] | skip)
          intro f
          simp only [Nat.reduceAdd, Nat.reduceEqDiff, if_false]
          have T2 := T.put hy hof hle fu2 hfu
          have htd2 := put_zi (ks := ks) (o := om ++ [y]) (m := 2 ^ y + m) (t := Tr.nd Kd.lst (f 5) (List.map Tr.d (List.map PyData.int (zO (om ++ [y]))))) htd ⟨f 5, rfl⟩
          rw [show (Sum.inl ((2 ^ y + m : Nat) : Int) : Key) = kI (2 ^ y + m) from rfl, putKs_map]
          have htl := Paired.len htd
          rw [List.length_map, ← T.tb.len] at htl
          exact ⟨⟨nodup_kI T.tb.nd, by omega⟩, hN2 _ ⟨[some (.d (houseD h)), some (.r 0), some (.r 1), some (.r 3), some (.r 4), some (.d (.int (m : Int))), none, none, none], [.tr (.nd (.obj O.opened dx opF) q0 ts), .tr (.nd (.dct ((putKs ks (2 ^ y + m)).map kI)) pd (putTs (ks.map kI) td (kI (2 ^ y + m)) (Tr.nd Kd.lst (f 5) (List.map Tr.d (List.map PyData.int (zO (om ++ [y]))))))), .gone, .fz (.list (ls.map fun k : Nat => .int (k : Int))), .lst (fu2.map fun k : Nat => .int (k : Int))]⟩ (wk_of [.gone] (by simp [SubS, ltO, AVal.lt, houseD, ksD]) rfl rfl (by simp)) ⟨_, _, fu2, _, _, T2, htd2, rfl⟩⟩
        by_cases hin : 2 ^ y + m ∈ ks
        · obtain ⟨old, hold, _⟩ := at2_some T.tb.len hin
          obtain ⟨a2, ha2, hga⟩ := hg _ old hold
          rw [hga, Option.isSome_some, if_neg (by decide)]
          refine ⟨_, rfl, ltDT_at (a := zO (om ++ [y])) (b := zO old) rfl (data_kid rfl ha2) ?_⟩
          by_cases hlt : zO (om ++ [y]) < zO old
          · rw [decide_eq_true hlt, if_pos rfl]
            exact fin fu (.inl ⟨hin, rfl⟩) fun o2 e => by
              rw [hold] at e; cases e
              exact List.le_of_lt hlt
          · rw [decide_eq_false hlt, if_neg (by decide)]
            have T2 := T.keep hy hof hold (List.not_lt.mp hlt)
            exact hN2 _ ⟨[some (.d (houseD h)), some (.r 0), some (.r 1), some (.r 3), some (.r 4), some (.d (.int (m : Int))), none, none, none], [.tr (.nd (.obj O.opened dx opF) q0 ts), .tr (.nd (.dct (ks.map kI)) pd td), .gone, .fz (.list (ls.map fun k : Nat => .int (k : Int))), .lst (fu.map fun k : Nat => .int (k : Int))]⟩ (wk_of [.lst ((zO (om ++ [y])).map PyData.int)] (by simp [SubS, ltO, AVal.lt, houseD, ksD]) rfl rfl (by simp)) ⟨ks, os, fu, pd, td, T2, htd, rfl⟩
        · have hno : getA ((ks.map kI).zip (kids 1 [] td)) (.inl ((2 ^ y + m : Nat) : Int)) = none := by
            have := getA_kids (m := 2 ^ y + m) hlen
            rw [if_neg hin] at this
            exact this
          rw [hno, Option.isSome_none, if_pos (by decide)]
          have e3 : fu.map (fun k : Nat => PyData.int (k : Int)) ++ [PyData.int ((2 ^ y + m : Nat) : Int)] = (fu ++ [2 ^ y + m]).map fun k : Nat => PyData.int (k : Int) := by rw [List.map_append]; rfl
          rw [e3]
          refine ⟨by omega, fin (fu ++ [2 ^ y + m]) (.inr ⟨hin, rfl⟩) fun o2 e => absurd (at2_mem e) hin⟩
      · rintro s' ⟨ks, os, fu, pd, td, T, htd, rfl⟩
        exact hN _ ⟨[some (.d (houseD h)), some (.r 0), some (.r 1), some (.r 3), some (.r 4), none, none, none, none], [.tr (.nd (.obj O.opened dx opF) q0 ts), .tr (.nd (.dct (ks.map kI)) pd td), .gone, .fz (.list (ls.map fun k : Nat => .int (k : Int))), .lst (fu.map fun k : Nat => .int (k : Int))]⟩ (wk_of [] (by simp [SubS, ltO, AVal.lt, houseD, ksD]) rfl rfl (by simp)) ⟨_, ks, os, fu, pd, td, st, T.done, htd, rfl⟩
    · rintro s' ⟨t, ks, os, fu, pd, td, st, L, htd, rfl⟩
      rw [List.drop_length] at L
      (first | simp_arith [onSome_some] | skip)
      obtain ⟨dx, q0, ts, rfl⟩ := st.form
      have hLn : ∃ c', LayI h ks os c' fu [] ∧ (fu ≠ [] → k - 1 = c' + 1) := by
        by_cases hf : fu = []
        · subst hf
          exact ⟨c, L, fun z => absurd rfl z⟩
        · obtain ⟨x, hx⟩ := List.exists_mem_of_ne_nil _ hf
          have := (L.lfu x hx).2
          obtain ⟨c', rfl⟩ : ∃ c', c = c' + 1 := ⟨c - 1, by omega⟩
          exact ⟨c', L.next, fun _ => by omega⟩
      obtain ⟨c', L2, hc'⟩ := hLn
      refine ⟨⟨[some (.d (houseD h)), some (.r 0), some (.r 1), some (.r 3), none, none, none, none, none], [.tr (.nd (.obj O.opened dx opF) q0 ts), .tr (.nd (.dct (ks.map kI)) pd td), .gone, .lst (fu.map fun k : Nat => .int (k : Int))]⟩, k - 1, wk_pick (m := 0) [0, 1, 2, 4] [.tr (.nd (.obj O.opened dx opF) q0 ts), .tr (.nd (.dct (ks.map kI)) pd td), .gone, .lst (fu.map fun k : Nat => .int (k : Int))] ?_ (by decide) (by decide) rfl rfl rfl (by simp), by omega, _, ks, os, c', fu, pd, td, st, L2, hc', htd, rfl⟩
      simp [SubQ, partQ, hasR, ksD, houseD]
      exact ⟨by decide, by decide⟩
/-! part p_w31 -/
/-! worths -/
def worN (ws o : List Nat) : Nat := (o.map fun k => ws.getD k 0).sum
theorem mem_roomsM {m k : Nat} (hk : k ∈ roomsM m) : m.testBit k = true := (List.mem_filter.mp hk).2
theorem roomsM_lt {m n k : Nat} (hm : m < 2 ^ n) (hk : k ∈ roomsM m) : k < n := by
  have h1 := mem_roomsM hk
  rcases Nat.lt_or_ge k n with h | h
  · exact h
  · rw [Nat.testBit_lt_two_pow (Nat.lt_of_lt_of_le hm (Nat.pow_le_pow_right (by decide) h))] at h1
    cases h1
theorem need_worths_use {h : House} {ws : List Nat} {P : RV → List Cell → Prop} (gd : GoodHouse h) (hn : h.2.length ≤ 12) (hl : ws.length = h.2.length) (q : P (.f .none) []) : TT_need_worths [.d (houseD h), .d (natsD ws)] [] P := by
  have szl : 200000 < sizeLine := by decide
  have k1 : kitB "list" "list" = some true := by decide +kernel
  have k2 : kitB "int" "int" = some true := by decide +kernel
  have k3 : kitB "int" "bool" = some false := by decide +kernel
  (first | simp_arith [TT_need_worths, tt_need_worths, natsD] | skip)
  refine few_house_use gd hn ?_
  have d0 : decide ((ws.length : Int) = (h.2.length : Int)) = true := decide_eq_true (by omega)
  (first | simp_arith [k1, d0] | skip)
  refine forW_fun (fun k : Nat => PyData.int (k : Int)) ws (fun _ => ⟨[some (.d (houseD h)), some (.d (natsD ws)), none], []⟩) rfl ?_ ?_
  · intro i k N hx hN
    have d1 : decide (((k : Nat) : Int) < 0) = false := decide_eq_false (by omega)
    (first | simp_arith [k2, k3, d1] | skip)
    exact hN _ (wk_of [] (by simp [SubS, ltO, AVal.lt, houseD, ksD, natsD]) rfl rfl (by simp))
  · (first | simp_arith [onSome_some] | skip)
    exact q
theorem maxD_nat : ∀ (xs : List Nat) (x : Nat), ∃ b : Nat, PySem.W.maxD (.int (x : Int)) (xs.map fun k : Nat => PyData.int (k : Int)) = .int (b : Int) ∧ (∀ y ∈ x :: xs, y ≤ b) ∧ b ∈ x :: xs := by
  intro xs x
  have e : (xs.map fun k : Nat => PyData.int (k : Int)) = (xs.map fun k : Nat => (k : Int)).map .int := by rw [List.map_map]; rfl
  rw [e, PySem.W.maxD_ints]
  clear e
  induction xs generalizing x with
  | nil => exact ⟨x, rfl, (fun y hy => by rw [List.mem_singleton.mp hy]; exact Nat.le_refl _), List.mem_singleton.mpr rfl⟩
  | cons a xs ih =>
    obtain ⟨b, h1, h2, h3⟩ := ih (max x a)
    refine ⟨b, ?_, fun y hy => ?_, ?_⟩
    · rw [← h1, List.map_cons, List.foldl_cons]
      congr 2
      omega
    · have h4 := h2 (max x a) (List.mem_cons_self ..)
      rcases List.mem_cons.mp hy with rfl | hy
      · omega
      · rcases List.mem_cons.mp hy with rfl | hy
        · omega
        · exact h2 y (List.mem_cons_of_mem _ hy)
    · rcases List.mem_cons.mp h3 with rfl | h3
      · rcases Nat.le_total x a with h | h
        · rw [Nat.max_eq_right h]; exact List.mem_cons_of_mem _ (List.mem_cons_self ..)
        · rw [Nat.max_eq_left h]; exact List.mem_cons_self ..
      · exact List.mem_cons_of_mem _ (List.mem_cons_of_mem _ h3)
theorem minD_nat : ∀ (xs : List Nat) (x : Nat), ∃ b : Nat, PySem.W.minD (.int (x : Int)) (xs.map fun k : Nat => PyData.int (k : Int)) = .int (b : Int) ∧ (∀ y ∈ x :: xs, b ≤ y) ∧ b ∈ x :: xs := by
  intro xs x
  have e : (xs.map fun k : Nat => PyData.int (k : Int)) = (xs.map fun k : Nat => (k : Int)).map .int := by rw [List.map_map]; rfl
  rw [e, PySem.W.minD_ints]
  clear e
  induction xs generalizing x with
  | nil => exact ⟨x, rfl, (fun y hy => by rw [List.mem_singleton.mp hy]; exact Nat.le_refl _), List.mem_singleton.mpr rfl⟩
  | cons a xs ih =>
    obtain ⟨b, h1, h2, h3⟩ := ih (min x a)
    refine ⟨b, ?_, fun y hy => ?_, ?_⟩
    · rw [← h1, List.map_cons, List.foldl_cons]
      congr 2
      omega
    · have h4 := h2 (min x a) (List.mem_cons_self ..)
      rcases List.mem_cons.mp hy with rfl | hy
      · omega
      · rcases List.mem_cons.mp hy with rfl | hy
        · omega
        · exact h2 y (List.mem_cons_of_mem _ hy)
    · rcases List.mem_cons.mp h3 with rfl | h3
      · rcases Nat.le_total x a with h | h
        · rw [Nat.min_eq_left h]; exact List.mem_cons_self ..
        · rw [Nat.min_eq_right h]; exact List.mem_cons_of_mem _ (List.mem_cons_self ..)
      · exact List.mem_cons_of_mem _ (List.mem_cons_of_mem _ h3)
theorem alike_intsL (xs : List Nat) : PySem.W.AlikeAll (xs.map fun k : Nat => PyData.int (k : Int)) ∧ PyData.canLayAll0 (xs.map fun k : Nat => PyData.int (k : Int)) = true ∧ PyData.depthAll (xs.map fun k : Nat => PyData.int (k : Int)) ≤ 60 := by
  refine ⟨⟨fun a ha b hb => ?_, fun a ha => ?_⟩, ?_, ?_⟩
  · obtain ⟨x, _, rfl⟩ := List.mem_map.mp ha
    obtain ⟨y, _, rfl⟩ := List.mem_map.mp hb
    rfl
  · obtain ⟨x, _, rfl⟩ := List.mem_map.mp ha
    exact fun z => nomatch z
  · induction xs with
    | nil => rfl
    | cons x xs ih =>
      rw [List.map_cons]
      simp only [PyData.canLayAll0, ih]
      rfl
  · induction xs with
    | nil => exact Nat.zero_le _
    | cons x xs ih =>
      rw [List.map_cons]
      simp only [PyData.depthAll, PyData.depth]
      omega
theorem alike_natsL (xs : List (List Nat)) : PySem.W.AlikeAll (xs.map natsD) ∧ PyData.canLayAll0 (xs.map natsD) = true ∧ PyData.depthAll (xs.map natsD) ≤ 60 := by
  refine ⟨⟨fun a ha b hb => ?_, fun a ha => ?_⟩, ?_, ?_⟩
  · obtain ⟨x, _, rfl⟩ := List.mem_map.mp ha
    obtain ⟨y, _, rfl⟩ := List.mem_map.mp hb
    show PySem.W.alike (.list _) (.list _) = true
    simp only [PySem.W.alike]
    exact alike_nats x y
  · obtain ⟨x, _, rfl⟩ := List.mem_map.mp ha
    exact fun z => nomatch z
  · induction xs with
    | nil => rfl
    | cons x xs ih =>
      rw [List.map_cons]
      simp only [PyData.canLayAll0, ih, (lay_natL x).1, natsD]
      have := (lay_natL x).1
      unfold natL at this
      rw [this]; rfl
  · induction xs with
    | nil => exact Nat.zero_le _
    | cons x xs ih =>
      rw [List.map_cons]
      have := (lay_natL x).2
      have e : natsD x = natL x := rfl
      simp only [PyData.depthAll]
      rw [e]
      omega
/-! part p_mostc30 -/
/-! the most worth, and all sets as a paper -/
theorem bestD_nat {g : PyData → List PyData → PyData} {s : AS} {Q : VQ} {xs : List Nat} (hx : xs ≠ []) (q : ∀ x ys, xs = x :: ys → Q (.d (g (.int (x : Int)) (ys.map fun k : Nat => PyData.int (k : Int)))) s) : bestD g s Q (xs.map fun k : Nat => PyData.int (k : Int)) := by
  cases xs with
  | nil => exact absurd rfl hx
  | cons x ys => exact ⟨alike_intsL (x :: ys), q x ys rfl⟩
theorem bestD_natL {g : PyData → List PyData → PyData} {s : AS} {Q : VQ} {xs : List (List Nat)} (hx : xs ≠ []) (q : ∀ x ys, xs = x :: ys → Q (.d (g (natsD x) (ys.map natsD))) s) : bestD g s Q (xs.map natsD) := by
  cases xs with
  | nil => exact absurd rfl hx
  | cons x ys => exact ⟨alike_natsL (x :: ys), q x ys rfl⟩
/-! part o_mostT -/
/-! the most rooms and the most worth, with the first order that has it; what is told is our own -/
theorem natsD_zO (o : List Nat) : intL (zO o) = natsD o := by
  unfold intL zO natsD
  rw [List.map_map]; rfl
theorem min_zO : ∀ (ys : List (List Nat)) (x : List Nat), ∃ b, PySem.W.minD (natsD x) (ys.map natsD) = natsD b ∧ b ∈ x :: ys ∧ ∀ y ∈ x :: ys, leO b y
  | [], x => ⟨x, rfl, List.mem_singleton.mpr rfl, fun y hy => by rw [List.mem_singleton.mp hy]; exact leO.refl _⟩
  | y :: ys, x => by
    have e : PySem.W.minD (natsD x) ((y :: ys).map natsD) = PySem.W.minD (if PySem.W.dataLt (natsD y) (natsD x) then natsD y else natsD x) (ys.map natsD) := rfl
    rw [e, ← natsD_zO y, ← natsD_zO x, dataLt_intL, natsD_zO, natsD_zO]
    by_cases hlt : zO y < zO x
    · rw [decide_eq_true hlt, if_pos rfl]
      obtain ⟨b, h1, h2, h3⟩ := min_zO ys y
      refine ⟨b, h1, List.mem_cons_of_mem _ h2, fun z hz => ?_⟩
      rcases List.mem_cons.mp hz with rfl | hz
      · exact (h3 y (List.mem_cons_self ..)).trans (List.le_of_lt hlt)
      · exact h3 z hz
    · rw [decide_eq_false hlt, if_neg (by decide)]
      obtain ⟨b, h1, h2, h3⟩ := min_zO ys x
      have hxy : leO x y := List.not_lt.mp hlt
      refine ⟨b, h1, ?_, fun z hz => ?_⟩
      · rcases List.mem_cons.mp h2 with rfl | h2
        · exact List.mem_cons_self ..
        · exact List.mem_cons_of_mem _ (List.mem_cons_of_mem _ h2)
      · rcases List.mem_cons.mp hz with rfl | hz
        · exact h3 _ (List.mem_cons_self ..)
        · rcases List.mem_cons.mp hz with rfl | hz
          · exact (h3 x (List.mem_cons_self ..)).trans hxy
          · exact h3 z (List.mem_cons_of_mem _ hz)
theorem mem_roomsM_iff {m k : Nat} : k ∈ roomsM m ↔ m.testBit k = true := by
  refine ⟨mem_roomsM, fun hb => List.mem_filter.mpr ⟨List.mem_range.mpr ?_, hb⟩⟩
  have hle : 2 ^ k ≤ m := Nat.le_of_not_lt fun z => by rw [Nat.testBit_lt_two_pow z] at hb; cases hb
  have h0 : m ≠ 0 := fun z => by subst z; rw [Nat.zero_testBit] at hb; cases hb
  rw [bits_of (t := m.log2) (Nat.log2_self_le h0) Nat.lt_log2_self]
  have := (Nat.le_log2 h0).mpr hle
  omega
/-- the most rooms, and the first order that opens so many -/
structure BestR (h : House) (b : Nat) (o : List Nat) : Prop where
  go : ∃ m, GoM h o m
  len : o.length = b
  le : ∀ o' m, GoM h o' m → o'.length ≤ b
  fst : ∀ o' m, GoM h o' m → o'.length = b → leO o o'
/-- the most worth, and the first order of the fewest rooms that has it -/
structure BestW (h : House) (ws : List Nat) (b : Nat) (o : List Nat) : Prop where
  go : ∃ m, GoM h o m
  wor : worN ws o = b
  le : ∀ o' m, GoM h o' m → worN ws o' ≤ b
  few : ∀ o' m, GoM h o' m → worN ws o' = b → o.length ≤ o'.length
  fst : ∀ o' m, GoM h o' m → worN ws o' = b → o'.length = o.length → leO o o'
theorem GoM.mem {h : House} {o : List Nat} {m : Nat} (g : GoM h o m) : o.Nodup ∧ ∀ k, k ∈ o ↔ m.testBit k = true := by
  induction g with
  | nil => exact ⟨List.nodup_nil, fun k => by simp⟩
  | @snoc o m k _ hk ih =>
    obtain ⟨h1, h2⟩ := mem_nextM hk
    refine ⟨List.nodup_append.mpr ⟨ih.1, by simp, fun a ha b hb => ?_⟩, fun i => ?_⟩
    · rw [List.mem_singleton] at hb; subst hb
      intro e; subst e
      rw [(ih.2 a).mp ha] at h2; cases h2
    · rw [List.mem_append, List.mem_singleton, bit_add h2, ih.2]
      by_cases e : i = k
      · subst e; simp
      · simp [e]
theorem GoM.wor {h : House} {o : List Nat} {m : Nat} (ws : List Nat) (g : GoM h o m) : worN ws o = worN ws (roomsM m) := by
  have hp : o.Perm (roomsM m) := by
    have hnd : (roomsM m).Nodup := List.nodup_range.filter _
    refine (List.perm_ext_iff_of_nodup g.mem.1 hnd).mpr fun k => ?_
    rw [g.mem.2 k, mem_roomsM_iff]
  unfold worN
  exact (hp.map _).sum_nat
theorem getD_tab {ks : List Nat} {os : List (List Nat)} {m : Nat} {o : List Nat} (hl : ks.length = os.length) (e : at2 ks os m = some o) : getA ((ks.map kI).zip (os.map natsD)) (.inl (m : Int)) = some (natsD o) := by
  have hm := at2_mem e
  unfold at2 at e
  rw [if_pos hm] at e
  have := getA_kids (m := m) (ks := ks) (xs := os.map natsD) (by rw [List.length_map]; exact hl)
  rw [if_pos hm, List.getElem?_map, e] at this
  exact this
theorem keys_tab : ∀ {ks : List Nat} {xs : List PyData}, ks.length = xs.length → ((ks.map kI).zip xs).map (fun p => keyD p.1) = ks.map fun m : Nat => PyData.int (m : Int)
  | [], _, _ => rfl
  | _ :: _, [], h => by cases h
  | k :: ks, x :: xs, h => by
    rw [List.map_cons, List.zip_cons_cons, List.map_cons, List.map_cons, keys_tab (by simpa using h)]
    rfl
theorem tab_data {ks : List Nat} {os : List (List Nat)} {td : List Tr} {p : Addr} (h : Paired ziT td (os.map zO)) : (Tr.nd (.dct (ks.map kI)) p td).data? = some (dictD ((ks.map kI).zip (os.map natsD))) := by
  show (Tr.datas? td).map (fun ds => dictD ((ks.map kI).zip ds)) = _
  rw [ziTs_data h, List.map_map]
  have : (intL ∘ zO) = natsD := funext natsD_zO
  rw [this]; rfl
theorem leafs_bare : ∀ ds : List Int, Tr.bares ((ds.map PyData.int).map Tr.d) = true
  | [] => rfl
  | d :: ds => by
    show (bareD (.int d) && Tr.bares ((ds.map PyData.int).map Tr.d)) = true
    rw [leafs_bare ds]; rfl
theorem zi_bares : ∀ {ts : List Tr} {gs : List (List Int)}, Paired ziT ts gs → Tr.bares ts = true
  | _, _, .nil => rfl
  | _, _, .cons h t => by
    obtain ⟨p, rfl⟩ := h
    show ((true && Tr.bares _) && Tr.bares _) = true
    rw [leafs_bare, zi_bares t]; rfl
theorem most_rooms_t_use {O : OT} {h : House} {P : RV → List Cell → Prop} (gd : GoodHouse h) (hn : h.2.length ≤ 12) (hz : (allL h).length ≤ 100000)
    (q : ∀ b o p p2, BestR h b o → P (.t (twoT p p2 (b : Int) (zO o))) []) : TT_most_rooms_t O [.d (houseD h)] [] P := by
  have szl : 200000 < sizeLine := by decide
  (first | simp_arith [TT_most_rooms_t, tt_most_rooms_t] | skip)
  refine few_house_use gd hn ?_
  (first | simp_arith [onSome_some] | skip)
  refine sets_t_use gd hn hz fun ks os p td S htd => ?_
  (first | simp_arith [onSome_some] | skip)
  refine ⟨0, _, _, rfl, rfl, ?_, tab_data htd, ?_⟩
  · show (true && Tr.bares td) = true
    rw [zi_bares htd]; rfl
  (first | simp_arith [slotsF] | skip)
  have hv : ∀ m ∈ ks, getA ((ks.map kI).zip (os.map natsD)) (.inl (m : Int)) = some (natsD ((at2 ks os m).getD [])) ∧ FirstG h m ((at2 ks os m).getD []) := fun m hm => by
    obtain ⟨o, e, hf⟩ := S.fst m hm
    rw [e]
    exact ⟨getD_tab S.tb.len e, hf⟩
  generalize hval : (fun m => (at2 ks os m).getD []) = vO
  have hv : ∀ m ∈ ks, getA ((ks.map kI).zip (os.map natsD)) (.inl (m : Int)) = some (natsD (vO m)) ∧ FirstG h m (vO m) := fun m hm => by
    rw [← hval]; exact hv m hm
  rw [keys_tab (by rw [List.length_map]; exact S.tb.len)]
  have hne : ks ≠ [] := List.ne_nil_of_mem S.tb.z
  refine lcW_map trivial (fun m : Nat => PyData.int (m : Int)) (fun _ => true) (fun m : Nat => PyData.int (((vO m).length : Nat) : Int)) (fun m hm R1 R2 h1 h2 => ?_) ?_
  · have h1 := h1 rfl
    obtain ⟨ho, hl⟩ := hv m hm
    (first | simp_arith [getA_dk, ho, natsD, List.length_map] | skip)
    exact h1
  rw [List.filter_eq_self.mpr fun _ _ => rfl, List.nil_append]
  have e3 : (ks.map fun m : Nat => PyData.int (((vO m).length : Nat) : Int)) = (ks.map fun m => (vO m).length).map fun k : Nat => PyData.int (k : Int) := by rw [List.map_map]; rfl
  rw [e3]
  (first | simp_arith [bestDA] | skip)
  refine bestD_nat (by simpa using hne) fun x ys ex => ?_
  obtain ⟨b, hb1, hb2, hb3⟩ := maxD_nat ys x
  rw [← ex] at hb2 hb3
  rw [hb1]
  have hle : ∀ o' m, GoM h o' m → o'.length ≤ b := fun o' m g => by
    have hm := S.al m g.rm
    have h1 := hb2 _ (List.mem_map.mpr ⟨m, hm, rfl⟩)
    have h2 := (hv m hm).2.1.len
    have h3 := g.len
    omega
  (first | simp_arith [onSome_some] | skip)
  rw [keys_tab (by rw [List.length_map]; exact S.tb.len)]
  refine lcW_map trivial (fun m : Nat => PyData.int (m : Int)) (fun m => decide ((vO m).length = b)) (fun m : Nat => natsD (vO m)) (fun m hm R1 R2 h1 h2 => ?_) ?_
  · obtain ⟨ho, hl⟩ := hv m hm
    have ed : decide (((vO m).length : Int) = (b : Int)) = decide ((vO m).length = b) := decide_eq_decide.mpr (by omega)
    (first | simp_arith [ed, getA_dk, ho, natsD, List.length_map] | skip)
    exact iteB h1 h2
  rw [List.nil_append]
  have hmem : ∀ m, m ∈ (ks.filter fun m => decide ((vO m).length = b)) ↔ m ∈ ks ∧ (vO m).length = b := fun m => by rw [List.mem_filter, decide_eq_true_eq]
  have hne2 : (ks.filter fun m => decide ((vO m).length = b)) ≠ [] := fun z => by
    obtain ⟨m, hm, e⟩ := List.mem_map.mp hb3
    have : m ∈ ks.filter fun m => decide ((vO m).length = b) := (hmem m).mpr ⟨hm, e⟩
    rw [z] at this
    cases this
  generalize (ks.filter fun m => decide ((vO m).length = b)) = ns at hne2 hmem
  have e4 : (ns.map fun m : Nat => natsD (vO m)) = (ns.map vO).map natsD := by rw [List.map_map]; rfl
  rw [e4]
  have hne3 : ns.map vO ≠ [] := by simpa using hne2
  (first | simp_arith [bestDA] | skip)
  refine bestD_natL hne3 fun x3 ys3 ex3 => ?_
  obtain ⟨o, ho1, ho2, ho3⟩ := min_zO ys3 x3
  rw [ho1]
  rw [← ex3] at ho2 ho3
  (first | simp_arith [natsD] | skip)
  have hB : BestR h b o := by
    obtain ⟨m, hm, e⟩ := List.mem_map.mp ho2
    obtain ⟨hm1, hm2⟩ := (hmem m).mp hm
    refine ⟨⟨m, e ▸ (hv m hm1).2.1⟩, e ▸ hm2, hle, fun o' m' g e' => ?_⟩
    have hm' := S.al m' g.rm
    have hF := (hv m' hm').2
    have h2 := hF.1.len
    have h3 := g.len
    exact (ho3 _ (List.mem_map.mpr ⟨m', (hmem m').mpr ⟨hm', by omega⟩, rfl⟩)).trans (hF.2 o' g)
  refine ⟨by omega, (b : Int), zO o, ?_, (fun _ z => nomatch z), fun p p2 => ?_⟩
  · unfold zO
    rw [List.map_map]; rfl
  · refine ⟨rfl, ?_⟩
    show (if 0 < 0 then _ else _)
    rw [if_neg (Nat.lt_irrefl _)]
    exact ⟨_, rfl, q b o p p2 hB⟩
/-- worths in a cell that was handed in -/
theorem worth_of_c {ws o : List Nat} {P : RV → List Cell → Prop} (ho : ∀ k ∈ o, k < ws.length) (q : P (.f (.int (worN ws o : Nat))) [.lst (ws.map fun k : Nat => PyData.int (k : Int))]) : TT_worth_of [.d (natsD o), .r 0] [.lst (ws.map fun k : Nat => PyData.int (k : Int))] P := by
  (first | simp_arith [TT_worth_of, tt_worth_of, natsD] | skip)
  refine lcW_map trivial (fun k : Nat => PyData.int (k : Int)) (fun _ => true) (fun k : Nat => PyData.int ((ws.getD k 0 : Nat) : Int)) (fun k hk R1 R2 h1 h2 => ?_) ?_
  · have h1 := h1 rfl
    have hg : ws[k]? = some (ws.getD k 0) := by
      rw [List.getD_eq_getElem?_getD, List.getElem?_eq_getElem (ho k hk)]; rfl
    (first | simp_arith [atI_natE, hg] | skip)
    exact h1
  rw [List.filter_eq_self.mpr fun _ _ => rfl, List.nil_append]
  have e : (o.map fun k : Nat => PyData.int ((ws.getD k 0 : Nat) : Int)) = (o.map fun k => ws.getD k 0).map fun k : Nat => PyData.int (k : Int) := by rw [List.map_map]; rfl
  rw [e]
  (first | simp_arith [ints_nat, sum_nat] | skip)
  exact q
theorem most_worth_t_use {O : OT} {h : House} {ws : List Nat} {P : RV → List Cell → Prop} (gd : GoodHouse h) (hn : h.2.length ≤ 12) (hz : (allL h).length ≤ 100000) (hl : ws.length = h.2.length)
    (q : ∀ b o p p2, BestW h ws b o → P (.t (twoT p p2 (b : Int) (zO o))) []) : TT_most_worth_t O [.d (houseD h), .d (natsD ws)] [] P := by
  have szl : 200000 < sizeLine := by decide
  have hp12 := pow12 hn
  (first | simp_arith [TT_most_worth_t, tt_most_worth_t] | skip)
  refine need_worths_use gd hn hl ?_
  (first | simp_arith [onSome_some] | skip)
  refine sets_t_use gd hn hz fun ks os p td S htd => ?_
  (first | simp_arith [onSome_some] | skip)
  have ewz : (ws.map fun k : Nat => (k : Int)).map PyData.int = ws.map fun k : Nat => PyData.int (k : Int) := by rw [List.map_map]; rfl
  refine ⟨0, _, _, ws.map (fun k : Nat => (k : Int)), rfl, rfl, ?_, tab_data htd, ?_, ?_⟩
  · show (true && Tr.bares td) = true
    rw [zi_bares htd]; rfl
  · rw [ewz]; rfl
  rw [ewz]
  (first | simp_arith [slotsF] | skip)
  have hv : ∀ m ∈ ks, getA ((ks.map kI).zip (os.map natsD)) (.inl (m : Int)) = some (natsD ((at2 ks os m).getD [])) ∧ FirstG h m ((at2 ks os m).getD []) := fun m hm => by
    obtain ⟨o, e, hf⟩ := S.fst m hm
    rw [e]
    exact ⟨getD_tab S.tb.len e, hf⟩
  generalize hval : (fun m => (at2 ks os m).getD []) = vO
  have hv : ∀ m ∈ ks, getA ((ks.map kI).zip (os.map natsD)) (.inl (m : Int)) = some (natsD (vO m)) ∧ FirstG h m (vO m) := fun m hm => by
    rw [← hval]; exact hv m hm
  rw [keys_tab (by rw [List.length_map]; exact S.tb.len)]
  have hlt : ∀ m ∈ ks, m < 2 ^ h.2.length := fun m hm => (S.tb.rm hm).lt
  have hmem0 : ∀ m ∈ ks, ∀ k ∈ roomsM m, k < ws.length := fun m hm k hk => by rw [hl]; exact roomsM_lt (hlt m hm) hk
  have hne : ks ≠ [] := List.ne_nil_of_mem S.tb.z
  refine lcW_map trivial (fun m : Nat => PyData.int (m : Int)) (fun _ => true) (fun m : Nat => PyData.int ((worN ws (roomsM m) : Nat) : Int)) (fun m hm R1 R2 h1 h2 => ?_) ?_
  · have h1 := h1 rfl
    have := hlt m hm
    (first | simp_arith [onSome_some] | skip)
    refine rooms_of_use (by omega) ?_
    (first | simp_arith [onSome_some] | skip)
    refine worth_of_c (hmem0 m hm) ?_
    (first | simp_arith [onSome_some] | skip)
    exact h1
  rw [List.filter_eq_self.mpr fun _ _ => rfl, List.nil_append]
  have e3 : (ks.map fun m : Nat => PyData.int ((worN ws (roomsM m) : Nat) : Int)) = (ks.map fun m => worN ws (roomsM m)).map fun k : Nat => PyData.int (k : Int) := by rw [List.map_map]; rfl
  rw [e3]
  (first | simp_arith [bestDA] | skip)
  refine bestD_nat (by simpa using hne) fun x ys ex => ?_
  obtain ⟨b, hb1, hb2, hb3⟩ := maxD_nat ys x
  rw [← ex] at hb2 hb3
  rw [hb1]
  have hle : ∀ o' m, GoM h o' m → worN ws o' ≤ b := fun o' m g => by
    rw [g.wor ws]
    exact hb2 _ (List.mem_map.mpr ⟨m, S.al m g.rm, rfl⟩)
  (first | simp_arith [onSome_some] | skip)
  rw [keys_tab (by rw [List.length_map]; exact S.tb.len)]
  refine lcW_map trivial (fun m : Nat => PyData.int (m : Int)) (fun m => decide (worN ws (roomsM m) = b)) (fun m : Nat => natsD (vO m)) (fun m hm R1 R2 h1 h2 => ?_) ?_
  · have := hlt m hm
    obtain ⟨ho, hf⟩ := hv m hm
    (first | simp_arith [onSome_some] | skip)
    refine rooms_of_use (by omega) ?_
    (first | simp_arith [onSome_some] | skip)
    refine worth_of_c (hmem0 m hm) ?_
    have ed : decide (((worN ws (roomsM m) : Nat) : Int) = (b : Int)) = decide (worN ws (roomsM m) = b) := decide_eq_decide.mpr (by omega)
    (first | simp_arith [ed, getA_dk, ho] | skip)
    exact iteB h1 h2
  rw [List.nil_append]
  have hmem : ∀ m, m ∈ (ks.filter fun m => decide (worN ws (roomsM m) = b)) ↔ m ∈ ks ∧ worN ws (roomsM m) = b := fun m => by rw [List.mem_filter, decide_eq_true_eq]
  have hne2 : (ks.filter fun m => decide (worN ws (roomsM m) = b)) ≠ [] := fun z => by
    obtain ⟨m, hm, e⟩ := List.mem_map.mp hb3
    have : m ∈ ks.filter fun m => decide (worN ws (roomsM m) = b) := (hmem m).mpr ⟨hm, e⟩
    rw [z] at this
    cases this
  generalize (ks.filter fun m => decide (worN ws (roomsM m) = b)) = ns at hne2 hmem
  have e4 : (ns.map fun m : Nat => natsD (vO m)) = (ns.map vO).map natsD := by rw [List.map_map]; rfl
  rw [e4]
  have hne3 : ns.map vO ≠ [] := by simpa using hne2
  have hos : ∀ o, o ∈ ns.map vO ↔ ∃ m, FirstG h m o ∧ worN ws o = b := fun o => by
    rw [List.mem_map]
    constructor
    · rintro ⟨m, hm, rfl⟩
      obtain ⟨h1, h2⟩ := (hmem m).mp hm
      exact ⟨m, (hv m h1).2, by rw [(hv m h1).2.1.wor ws]; exact h2⟩
    · rintro ⟨m, hf, e⟩
      have h1 := S.al m hf.1.rm
      exact ⟨m, (hmem m).mpr ⟨h1, by rw [← hf.1.wor ws]; exact e⟩, (hv m h1).2.one hf⟩
  generalize ns.map vO = xs at hne3 hos
  (first | simp_arith [onSome_some] | skip)
  refine lcW_map trivial natsD (fun _ => true) (fun o : List Nat => PyData.int ((o.length : Nat) : Int)) (fun o ho R1 R2 h1 h2 => ?_) ?_
  · have h1 := h1 rfl
    (first | simp_arith [natsD] | skip)
    exact h1
  rw [List.filter_eq_self.mpr fun _ _ => rfl, List.nil_append]
  have e5 : (xs.map fun o : List Nat => PyData.int ((o.length : Nat) : Int)) = (xs.map List.length).map fun k : Nat => PyData.int (k : Int) := by rw [List.map_map]; rfl
  rw [e5]
  (first | simp_arith [bestDA] | skip)
  refine bestD_nat (by simpa using hne3) fun x2 ys2 ex2 => ?_
  obtain ⟨b2, hc1, hc2, hc3⟩ := minD_nat ys2 x2
  rw [← ex2] at hc2 hc3
  rw [hc1]
  (first | simp_arith [onSome_some] | skip)
  refine lcW_map trivial natsD (fun o : List Nat => decide (o.length = b2)) natsD (fun o ho R1 R2 h1 h2 => ?_) ?_
  · have ed : decide (((o.length : Nat) : Int) = (b2 : Int)) = decide (o.length = b2) := decide_eq_decide.mpr (by omega)
    (first | simp_arith [natsD, ed] | skip)
    exact iteB h1 h2
  rw [List.nil_append]
  have hfm : ∀ o, o ∈ (xs.filter fun o : List Nat => decide (o.length = b2)) ↔ o ∈ xs ∧ o.length = b2 := fun o => by rw [List.mem_filter, decide_eq_true_eq]
  have hne4 : (xs.filter fun o : List Nat => decide (o.length = b2)) ≠ [] := fun z => by
    obtain ⟨o, ho, e⟩ := List.mem_map.mp hc3
    have : o ∈ xs.filter fun o : List Nat => decide (o.length = b2) := (hfm o).mpr ⟨ho, e⟩
    rw [z] at this
    cases this
  (first | simp_arith [bestDA] | skip)
  refine bestD_natL hne4 fun x3 ys3 ex3 => ?_
  obtain ⟨o, ho1, ho2, ho3⟩ := min_zO ys3 x3
  rw [ho1]
  rw [← ex3] at ho2 ho3
  (first | simp_arith [natsD] | skip)
  have hB : BestW h ws b o := by
    obtain ⟨hx, hlen⟩ := (hfm o).mp ho2
    obtain ⟨m, hf, hw⟩ := (hos o).mp hx
    have low : ∀ o' m', GoM h o' m' → worN ws o' = b → ∃ o2, o2 ∈ xs ∧ o2.length = o'.length ∧ leO o2 o' := fun o' m' g e => by
      have hm' := S.al m' g.rm
      have hF := (hv m' hm').2
      have h1 := hF.1.len
      have h2 := g.len
      exact ⟨vO m', (hos _).mpr ⟨m', hF, by rw [hF.1.wor ws, ← g.wor ws]; exact e⟩, by omega, hF.2 o' g⟩
    refine ⟨⟨m, hf.1⟩, hw, hle, fun o' m' g e => ?_, fun o' m' g e el => ?_⟩
    · obtain ⟨o2, h1, h2, _⟩ := low o' m' g e
      have := hc2 _ (List.mem_map.mpr ⟨o2, h1, rfl⟩)
      omega
    · obtain ⟨o2, h1, h2, h3⟩ := low o' m' g e
      exact (ho3 o2 ((hfm o2).mpr ⟨h1, by omega⟩)).trans h3
  refine ⟨by omega, (b : Int), zO o, ?_, (fun ws' z => ?_), fun p p2 => ?_⟩
  · unfold zO
    rw [List.map_map]; rfl
  · cases z
    rw [ewz]; rfl
  · refine ⟨rfl, ?_⟩
    show (if 0 < 0 then _ else _)
    rw [if_neg (Nat.lt_irrefl _)]
    exact ⟨_, rfl, q b o p p2 hB⟩
/-! part p_lclI30 -/
/-! a comprehension that makes lists of our own, while other cells change -/
def lcTStep (g : TGA) (tt : TTA) (te : TEA) (vs : List Nat) (sl : List (Option AVal)) (cs : List Cell) (x : PyData) (R1 : AVal → List Cell → Prop) (R2 : List Cell → Prop) : Prop := g (.d x) ⟨wipeA sl vs, cs⟩ fun s1 => tt s1 fun b s2 => if b = true then te s2 fun y s3 => R1 y s3.cs else R2 s2.cs
theorem lcTW_inv {α : Type} {g : TGA} {tt : TTA} {te : TEA} {vs : List Nat} {ok : List Cell → Prop} {sl : List (Option AVal)} {Q : List AVal → List Cell → Prop} (D : α → PyData) (xs : List α) (Iv : Nat → List AVal → List Cell → Prop) {acc : List AVal} {cs : List Cell} (h0 : Iv 0 acc cs) (hok : ∀ i acc cs, Iv i acc cs → ok cs)
    (hs : ∀ i x acc cs R1 R2, xs[i]? = some x → Iv i acc cs → (∀ d cs', Iv (i + 1) (acc ++ [d]) cs' → R1 d cs') → (∀ cs', Iv (i + 1) acc cs' → R2 cs') → lcTStep g tt te vs sl cs (D x) R1 R2) (hd : ∀ acc cs, Iv xs.length acc cs → Q acc cs) : lcTW g tt te vs ok sl (xs.map D) acc cs Q := by
  have key : ∀ (n i : Nat) (acc : List AVal) (cs : List Cell), xs.length = i + n → Iv i acc cs → lcTW g tt te vs ok sl ((xs.drop i).map D) acc cs Q := by
    intro n
    induction n with
    | zero =>
      intro i acc cs hl hi
      rw [List.drop_eq_nil_of_le (by omega)]
      exact ⟨hok _ _ _ hi, hd _ _ (by rw [hl]; exact hi)⟩
    | succ n ih =>
      intro i acc cs hl hi
      have e : xs[i]? = some (xs[i]'(by omega)) := List.getElem?_eq_getElem (by omega)
      rw [drop_get e, List.map_cons]
      exact ⟨hok _ _ _ hi, hs i _ acc cs (fun d cs' => lcTW g tt te vs ok sl ((xs.drop (i + 1)).map D) (acc ++ [d]) cs' Q) (fun cs' => lcTW g tt te vs ok sl ((xs.drop (i + 1)).map D) acc cs' Q) e hi (fun d cs' h => ih (i + 1) _ _ (by omega) h) (fun cs' h => ih (i + 1) _ _ (by omega) h)⟩
  exact key xs.length 0 acc cs (by omega) h0
def rfL {α : Type} (n : Nat) (ys : List α) : List AVal := (List.range ys.length).map fun i => AVal.r (n + i)
theorem rfL_snoc {α : Type} (n : Nat) (ys : List α) (y : α) : rfL n (ys ++ [y]) = rfL n ys ++ [.r (n + ys.length)] := by
  unfold rfL
  rw [List.length_append, List.length_singleton, List.range_succ, List.map_append]; rfl
theorem rfL_cons {α : Type} (n : Nat) (ys : List α) (y : α) : rfL n (y :: ys) = .r n :: rfL (n + 1) ys := by
  unfold rfL
  rw [List.length_cons, List.range_succ_eq_map, List.map_cons, List.map_map]
  congr 1
  refine List.map_congr_left fun i _ => ?_
  show AVal.r (n + (i + 1)) = AVal.r (n + 1 + i)
  congr 1; omega
theorem grabs_run {α : Type} (f : Nat → Addr) (L : α → List PyData) : ∀ (ys : List α) (hd : List Cell), ∃ ts, Paired (fun y t => ∃ p, t = Tr.nd .lst p ((L y).map Tr.d)) ys ts ∧ grabs f (hd ++ ys.map fun y => Cell.lst (L y)) (rfL hd.length ys) = some (ts, hd ++ ys.map fun _ => Cell.gone)
  | [], hd => ⟨[], .nil, rfl⟩
  | y :: ys, hd => by
    obtain ⟨ts, h1, h2⟩ := grabs_run f L ys (hd ++ [.gone])
    refine ⟨.nd .lst (f hd.length) ((L y).map Tr.d) :: ts, .cons ⟨_, rfl⟩ h1, ?_⟩
    rw [rfL_cons]
    have hj : (hd ++ (y :: ys).map fun y => Cell.lst (L y))[hd.length]? = some (.lst (L y)) := by
      rw [List.getElem?_append_right (Nat.le_refl _)]; simp
    have hg : grab f (hd ++ (y :: ys).map fun y => Cell.lst (L y)) (.r hd.length) = some (.nd .lst (f hd.length) ((L y).map Tr.d), hd ++ [.gone] ++ ys.map fun y => Cell.lst (L y)) := by
      show ((hd ++ (y :: ys).map fun y => Cell.lst (L y))[_]?).bind _ = _
      rw [hj]
      show some (_, (hd ++ (y :: ys).map fun y => Cell.lst (L y)).set _ .gone) = _
      rw [List.set_append_right _ _ (Nat.le_refl _)]
      simp
    show (grab f _ _).bind (fun r => (grabs f r.2 (rfL (hd.length + 1) ys)).map fun q => (r.1 :: q.1, q.2)) = _
    rw [hg]
    show (grabs f _ (rfL (hd.length + 1) ys)).map _ = _
    have : hd.length + 1 = (hd ++ [Cell.gone]).length := by simp
    rw [this, h2]
    simp
/-! part p_stuckT30 -/
/-! the sets that stuck orders open, told as our own -/
theorem rooms_ziT : ∀ {ms : List Nat} {us : List Tr}, Paired (fun m t => ∃ p, t = Tr.nd .lst p (((roomsM m).map fun k : Nat => PyData.int (k : Int)).map Tr.d)) ms us → Paired ziT us (ms.map roomsI)
  | _, _, .nil => .nil
  | m :: _, _, .cons h t => by
    obtain ⟨p, rfl⟩ := h
    refine .cons ⟨p, ?_⟩ (rooms_ziT t)
    congr 1
    unfold roomsI
    rw [List.map_map, List.map_map, List.map_map]
    rfl
theorem stuck_t_use {O : OT} {h : House} {P : RV → List Cell → Prop} (gd : GoodHouse h) (hn : h.2.length ≤ 12) (hz : (allL h).length ≤ 100000)
    (q : ∀ p ts, Paired ziT ts (stuckL h) → P (.t (.nd .lst p ts)) []) : TT_stuck_sets_t O [.d (houseD h)] [] P := by
  have szl : 200000 < sizeLine := by decide
  have hp := pow12 hn
  (first | simp_arith [TT_stuck_sets_t, tt_stuck_sets_t, lcT] | skip)
  refine few_house_use gd hn ?_
  (first | simp_arith [onSome_some] | skip)
  intro p dx
  refine init_house gd hn hz fun t st => ?_
  obtain ⟨dx, q0, ts, rfl⟩ := st.form
  (first | simp_arith [onSome_some] | skip)
  refine sets_use gd hn hz fun fd S hall => ?_
  obtain ⟨ms, e1, e2⟩ := keysN (n := 0) fun p hp => by
    obtain ⟨m, o, e, _⟩ := S.all p hp
    exact ⟨m, by rw [e]⟩
  (first | simp_arith [e1] | skip)
  have hmi : ∀ m, m ∈ ms ↔ inK fd m := fun m => by
    unfold inK
    rw [e2, List.mem_map]
    constructor
    · exact fun hm => ⟨m, hm, rfl⟩
    · rintro ⟨x, hx, e⟩
      have := Sum.inl.inj e
      have : x = m := by omega
      exact this ▸ hx
  have hmr : ∀ m ∈ ms, RM h m := fun m hm => S.rm ((hmi m).mp hm)
  have hnd : ms.Nodup := by
    have := S.nd
    rw [e2] at this
    exact (List.pairwise_map.mp this).imp fun h e => h (by rw [e])
  refine lcTW_inv (fun m : Nat => PyData.int (m : Int)) ms (fun i acc cs => ∃ t, OpSt (allL h) h O.opened [] [] t ∧ acc = rfL 2 ((ms.take i).filter fun m => (nextM h m).isEmpty) ∧ cs = [.tr t, .fz (dictD fd)] ++ ((ms.take i).filter fun m => (nextM h m).isEmpty).map fun m => Cell.lst ((roomsM m).map fun k : Nat => PyData.int (k : Int))) ⟨_, st, rfl, rfl⟩ (fun _ _ _ _ => trivial) ?_ ?_
  · clear st ts q0 dx
    rintro i m acc cs R1 R2 hx ⟨t, st, rfl, rfl⟩ hR1 hR2
    have hm := hmr m (List.mem_of_getElem? hx)
    have hml := hm.lt
    obtain ⟨dx, q0, ts, rfl⟩ := st.form
    have hsn : ((ms.take (i + 1)).filter fun m => (nextM h m).isEmpty) = ((ms.take i).filter fun m => (nextM h m).isEmpty) ++ if (nextM h m).isEmpty = true then [m] else [] := by
      rw [List.take_add_one, hx, Option.toList_some, List.filter_append]
      congr 1
      rw [List.filter_cons]
      split <;> rfl
    rw [hsn] at hR1 hR2
    generalize ((ms.take i).filter fun m => (nextM h m).isEmpty) = ys at hR1 hR2
    unfold lcTStep
    (first | simp_arith [lk_next_at, objN_o, List.cons_append, List.nil_append] | skip)
    refine next_at_use hz hn st hml fun t st => ?_
    obtain ⟨dx, q0, ts, rfl⟩ := st.form
    cases hne : (nextM h m).isEmpty with
    | true =>
      rw [hne, if_pos rfl] at hR1
      have he : ((nextM h m).map fun k : Nat => PyData.int (k : Int)).isEmpty = true := by rw [List.isEmpty_map]; exact hne
      (first | simp_arith [he] | skip)
      refine rooms_of_use (by omega) ?_
      (first | simp_arith [onSome_some] | skip)
      refine hR1 _ _ ⟨_, st, ?_, ?_⟩
      · rw [rfL_snoc]
        simp
        omega
      · simp
    | false =>
      rw [hne] at hR2
      have he : ((nextM h m).map fun k : Nat => PyData.int (k : Int)).isEmpty = false := by rw [List.isEmpty_map]; exact hne
      (first | simp_arith [he] | skip)
      refine hR2 _ ⟨_, st, ?_, ?_⟩
      · simp
      · simp
  · clear st ts q0 dx
    rintro acc cs ⟨t, st, rfl, rfl⟩
    rw [List.take_length]
    have hpm : (ms.filter fun m => (nextM h m).isEmpty).Perm (stuckM h) := by
      refine (List.perm_ext_iff_of_nodup (hnd.filter _) (stuckM_nodup h)).mpr fun m => ?_
      rw [List.mem_filter, mem_stuckM, List.isEmpty_iff]
      exact ⟨fun z => ⟨(hmr m z.1).lt, hmr m z.1, z.2⟩, fun z => ⟨(hmi m).mpr (hall m z.2.1), z.2.2⟩⟩
    generalize (ms.filter fun m => (nextM h m).isEmpty) = ys at hpm
    intro f
    obtain ⟨us, h1, h2⟩ := grabs_run f (fun m : Nat => (roomsM m).map fun k : Nat => PyData.int (k : Int)) ys [.tr t, .fz (dictD fd)]
    refine ⟨_, h2, ?_⟩
    have hz : Paired ziT us (ys.map roomsI) := rooms_ziT h1
    dsimp only
    rw [sortTA_r]
    have hlen : ([Cell.tr t, .fz (dictD fd)] ++ ys.map fun m => Cell.lst ((roomsM m).map fun k : Nat => PyData.int (k : Int))).length = ([Cell.tr t, .fz (dictD fd)] ++ ys.map fun _ => Cell.gone).length := by simp
    rw [hlen]
    generalize hgs : ([Cell.tr t, .fz (dictD fd)] ++ ys.map fun _ => Cell.gone) = gs
    refine ⟨us, ?_, (ys.map roomsI).map intL, ziTs_data hz, sorta_intL _, fun p => ?_⟩
    · simp [List.getElem?_append, kidsC]
    have hq := q p (sortTs us) (by
      have := sort_ziT hz
      unfold stuckL
      rwa [sortN_perm (hpm.map roomsI)] at this)
    (first | simp_arith [onSome_some] | skip)
    rw [if_neg (Nat.not_lt_zero _)]
    have hget : ((gs ++ [Cell.tr (Tr.nd Kd.lst (f gs.length) us)]).set gs.length Cell.gone ++ [Cell.tr (Tr.nd Kd.lst p (sortTs us))])[(gs ++ [Cell.tr (Tr.nd Kd.lst (f gs.length) us)]).length]? = some (Cell.tr (Tr.nd Kd.lst p (sortTs us))) := by
      rw [List.getElem?_append_right (by simp)]
      simp
    rw [hget]
    (first | simp_arith [onSome_some] | skip)
    exact hq
/-! part p_ev30 -/
/-! all orders: those that go -/
theorem GoM.mask {h : House} {o : List Nat} {m : Nat} (g : GoM h o m) : maskOf o = m := by
  induction g with
  | nil => rfl
  | snoc _ _ ih => rw [maskOf_snoc, ih]
theorem pre_snoc {h : House} {x : List Nat} {k : Nat} : ∀ (m : Nat) (o : List Nat), maskOf o = m → x ∈ preM h m o → k ∈ nextM h (maskOf x) → x ++ [k] ∈ preM h m o := by
  refine left_ind (h := h) fun m ih => ?_
  intro o ho hx hk
  rw [preM_eq] at hx ⊢
  rcases List.mem_cons.mp hx with rfl | hx
  · rw [ho] at hk
    refine List.mem_cons_of_mem _ (List.mem_flatMap.mpr ⟨k, hk, ?_⟩)
    rw [preM_eq]
    exact List.mem_cons_self ..
  · obtain ⟨k0, hk0, hx⟩ := List.mem_flatMap.mp hx
    exact List.mem_cons_of_mem _ (List.mem_flatMap.mpr ⟨k0, hk0, ih k0 hk0 _ (by rw [maskOf_snoc, ho]; omega) hx hk⟩)
theorem GoM.pre {h : House} {o : List Nat} {m : Nat} (g : GoM h o m) : o ∈ preM h 0 [] := by
  induction g with
  | nil => rw [preM_eq]; exact List.mem_cons_self ..
  | @snoc o m k g hk ih => exact pre_snoc 0 [] rfl ih (by rw [g.mask]; exact hk)
theorem pre_goM {h : House} {x : List Nat} : ∀ (m : Nat) (o : List Nat), GoM h o m → x ∈ preM h m o → ∃ m', GoM h x m' := by
  refine left_ind (h := h) fun m ih => ?_
  intro o g hx
  rw [preM_eq] at hx
  rcases List.mem_cons.mp hx with rfl | hx
  · exact ⟨m, g⟩
  · obtain ⟨k, hk, hx⟩ := List.mem_flatMap.mp hx
    exact ih k hk _ (by rw [Nat.add_comm]; exact g.snoc hk) hx
def allO (h : House) : List (List Nat) := preM h 0 []
theorem mem_allO {h : House} {x : List Nat} : x ∈ allO h ↔ ∃ m, GoM h x m := ⟨fun hx => pre_goM 0 [] .nil hx, fun ⟨_, g⟩ => g.pre⟩
theorem allO_go {h : House} {x : List Nat} (hx : x ∈ allO h) : CanGo h x := pre_go 0 [] rfl (.nil h) x hx
theorem allO_len {h : House} {x : List Nat} (hx : x ∈ allO h) : x.length ≤ h.2.length := by
  obtain ⟨m, g⟩ := mem_allO.mp hx
  have := g.len; omega
theorem BestR.of {h : House} {b : Nat} {o : List Nat} (ho : o ∈ allO h) (h1 : o.length = b) (h2 : ∀ x ∈ allO h, x.length ≤ b) (h3 : ∀ x ∈ allO h, x.length = b → leO o x) : BestR h b o :=
  ⟨mem_allO.mp ho, h1, fun x m g => h2 x g.pre, fun x m g e => h3 x g.pre e⟩
theorem BestR.one {h : House} {b b' : Nat} {o o' : List Nat} (x : BestR h b o) (y : BestR h b' o') : b = b' ∧ o = o' := by
  obtain ⟨⟨m, g⟩, l, le, fs⟩ := x
  obtain ⟨⟨m', g'⟩, l', le', fs'⟩ := y
  have e : b = b' := by
    have := le o' m' g'
    have := le' o m g
    omega
  exact ⟨e, (fs o' m' g' (by omega)).antisymm (fs' o m g (by omega))⟩
theorem BestW.of {h : House} {ws : List Nat} {b : Nat} {o : List Nat} (ho : o ∈ allO h) (h1 : worN ws o = b) (h2 : ∀ x ∈ allO h, worN ws x ≤ b) (h3 : ∀ x ∈ allO h, worN ws x = b → o.length ≤ x.length) (h4 : ∀ x ∈ allO h, worN ws x = b → x.length = o.length → leO o x) : BestW h ws b o :=
  ⟨mem_allO.mp ho, h1, fun x m g => h2 x g.pre, fun x m g e => h3 x g.pre e, fun x m g e l => h4 x g.pre e l⟩
theorem BestW.one {h : House} {ws : List Nat} {b b' : Nat} {o o' : List Nat} (x : BestW h ws b o) (y : BestW h ws b' o') : b = b' ∧ o = o' := by
  obtain ⟨⟨m, g⟩, w, le, fw, fs⟩ := x
  obtain ⟨⟨m', g'⟩, w', le', fw', fs'⟩ := y
  have e : b = b' := by
    have := le o' m' g'
    have := le' o m g
    omega
  have e2 : o.length = o'.length := by
    have := fw o' m' g' (by omega)
    have := fw' o m g (by omega)
    omega
  exact ⟨e, (fs o' m' g' (by omega) e2.symm).antisymm (fs' o m g (by omega) e2)⟩
/-! the law's worths, and the best by all orders -/
theorem lworth_use {ws o : List Nat} {P : RV → List Cell → Prop} (ho : ∀ k ∈ o, k < ws.length) (q : P (.f (.int (worN ws o : Nat))) []) : TT_law_worth [.d (natsD ws), .d (natsD o)] [] P := by
  (first | simp_arith [TT_law_worth, tt_law_worth, natsD] | skip)
  refine lcW_map trivial (fun k : Nat => PyData.int (k : Int)) (fun _ => true) (fun k : Nat => PyData.int ((ws.getD k 0 : Nat) : Int)) (fun k hk R1 R2 h1 h2 => ?_) ?_
  · have h1 := h1 rfl
    have hg : ws[k]? = some (ws.getD k 0) := by
      rw [List.getD_eq_getElem?_getD, List.getElem?_eq_getElem (ho k hk)]; rfl
    (first | simp_arith [atI_natE, hg] | skip)
    exact h1
  rw [List.filter_eq_self.mpr fun _ _ => rfl, List.nil_append]
  have e : (o.map fun k : Nat => PyData.int ((ws.getD k 0 : Nat) : Int)) = (o.map fun k => ws.getD k 0).map fun k : Nat => PyData.int (k : Int) := by rw [List.map_map]; rfl
  rw [e]
  (first | simp_arith [ints_nat, sum_nat] | skip)
  exact q
theorem best_use {h : House} {ws : List Nat} {P : RV → List Cell → Prop} (hl : ws.length = h.2.length) (q : ∀ b o, BestW h ws b o → P (.f (.tuple [.int (b : Int), natsD o])) []) : TT_law_best [.d (natsD ws), .d (.list ((allO h).map natsD))] [] P := by
  have szl : 200000 < sizeLine := by decide
  (first | simp_arith [TT_law_best, tt_law_best] | skip)
  have hok : ∀ o ∈ allO h, ∀ k ∈ o, k < ws.length := fun o ho k hk => by
    obtain ⟨m, g⟩ := mem_allO.mp ho
    have hb := (g.mem.2 k).mp hk
    rw [hl]
    exact roomsM_lt g.rm.lt (mem_roomsM_iff.mpr hb)
  have hne : allO h ≠ [] := List.ne_nil_of_mem (GoM.nil (h := h)).pre
  refine lcW_map trivial natsD (fun _ => true) (fun o : List Nat => PyData.int ((worN ws o : Nat) : Int)) (fun o ho R1 R2 h1 h2 => ?_) ?_
  · have h1 := h1 rfl
    (first | simp_arith [onSome_some] | skip)
    refine lworth_use (hok o ho) ?_
    (first | simp_arith [onSome_some] | skip)
    exact h1
  rw [List.filter_eq_self.mpr fun _ _ => rfl, List.nil_append]
  have e3 : ((allO h).map fun o : List Nat => PyData.int ((worN ws o : Nat) : Int)) = ((allO h).map (worN ws)).map fun k : Nat => PyData.int (k : Int) := by rw [List.map_map]; rfl
  rw [e3]
  (first | simp_arith [bestDA] | skip)
  refine bestD_nat (by simpa using hne) fun x ys ex => ?_
  obtain ⟨b, hb1, hb2, hb3⟩ := maxD_nat ys x
  rw [← ex] at hb2 hb3
  rw [hb1]
  (first | simp_arith [onSome_some] | skip)
  refine lcW_map trivial natsD (fun o => decide (worN ws o = b)) natsD (fun o ho R1 R2 h1 h2 => ?_) ?_
  · have ed : decide (((worN ws o : Nat) : Int) = (b : Int)) = decide (worN ws o = b) := decide_eq_decide.mpr (by omega)
    (first | simp_arith [onSome_some] | skip)
    refine lworth_use (hok o ho) ?_
    (first | simp_arith [ed] | skip)
    exact iteB h1 h2
  rw [List.nil_append]
  have hmem : ∀ o, o ∈ ((allO h).filter fun o => decide (worN ws o = b)) ↔ o ∈ allO h ∧ worN ws o = b := fun m => by rw [List.mem_filter, decide_eq_true_eq]
  have hne3 : ((allO h).filter fun o => decide (worN ws o = b)) ≠ [] := fun z => by
    obtain ⟨m, hm, e⟩ := List.mem_map.mp hb3
    have := (hmem m).mpr ⟨hm, e⟩
    rw [z] at this
    cases this
  generalize ((allO h).filter fun o => decide (worN ws o = b)) = xs at hne3 hmem
  (first | simp_arith [onSome_some] | skip)
  refine lcW_map trivial natsD (fun _ => true) (fun o : List Nat => PyData.int ((o.length : Nat) : Int)) (fun o ho R1 R2 h1 h2 => ?_) ?_
  · have h1 := h1 rfl
    (first | simp_arith [natsD] | skip)
    exact h1
  rw [List.filter_eq_self.mpr fun _ _ => rfl, List.nil_append]
  have e5 : (xs.map fun o : List Nat => PyData.int ((o.length : Nat) : Int)) = (xs.map List.length).map fun k : Nat => PyData.int (k : Int) := by rw [List.map_map]; rfl
  rw [e5]
  (first | simp_arith [bestDA] | skip)
  refine bestD_nat (by simpa using hne3) fun x2 ys2 ex2 => ?_
  obtain ⟨b2, hc1, hc2, hc3⟩ := minD_nat ys2 x2
  rw [← ex2] at hc2 hc3
  rw [hc1]
  (first | simp_arith [onSome_some] | skip)
  refine lcW_map trivial natsD (fun o : List Nat => decide (o.length = b2)) natsD (fun o ho R1 R2 h1 h2 => ?_) ?_
  · have ed : decide (((o.length : Nat) : Int) = (b2 : Int)) = decide (o.length = b2) := decide_eq_decide.mpr (by omega)
    (first | simp_arith [natsD, ed] | skip)
    exact iteB h1 h2
  rw [List.nil_append]
  have hfm : ∀ o, o ∈ (xs.filter fun o : List Nat => decide (o.length = b2)) ↔ o ∈ xs ∧ o.length = b2 := fun o => by rw [List.mem_filter, decide_eq_true_eq]
  have hne4 : (xs.filter fun o : List Nat => decide (o.length = b2)) ≠ [] := fun z => by
    obtain ⟨o, ho, e⟩ := List.mem_map.mp hc3
    have : o ∈ xs.filter fun o : List Nat => decide (o.length = b2) := (hfm o).mpr ⟨ho, e⟩
    rw [z] at this
    cases this
  (first | simp_arith [bestDA] | skip)
  refine bestD_natL hne4 fun x3 ys3 ex3 => ?_
  obtain ⟨o, ho1, ho2, ho3⟩ := min_zO ys3 x3
  rw [ho1]
  rw [← ex3] at ho2 ho3
  have hB : BestW h ws b o := by
    obtain ⟨hx, hlen⟩ := (hfm o).mp ho2
    obtain ⟨h1, h2⟩ := (hmem o).mp hx
    refine .of h1 h2 (fun x hx => hb2 _ (List.mem_map.mpr ⟨x, hx, rfl⟩)) (fun x hx e => ?_) fun x hx e el => ho3 x ((hfm x).mpr ⟨(hmem x).mpr ⟨hx, e⟩, by omega⟩)
    have := hc2 _ (List.mem_map.mpr ⟨x, (hmem x).mpr ⟨hx, e⟩, rfl⟩)
    omega
  (first | simp_arith [onSome_some] | skip)
  refine ⟨by omega, q b o hB⟩
/-! part p_sr30 -/
/-! the law's look at the sets told -/
def mkT (a : Addr) (g : List Int) : Tr := .nd .lst a ((g.map PyData.int).map Tr.d)
theorem zi_addrs : ∀ {ts : List Tr} {gs : List (List Int)}, Paired ziT ts gs → ∃ as : List Addr, as.length = gs.length ∧ ts = (as.zip gs).map fun p => mkT p.1 p.2
  | _, _, .nil => ⟨[], rfl, rfl⟩
  | _, _, .cons h t => by
    obtain ⟨a, rfl⟩ := h
    obtain ⟨as, h1, rfl⟩ := zi_addrs t
    exact ⟨a :: as, by simp [h1], rfl⟩
def mixT (ps : List (Addr × List Int)) (i : Nat) : List Tr := ps.mapIdx fun j p => mkT p.1 (if j < i then p.2 ++ [50 + (j : Int)] else p.2)
theorem mixT_zero (ps : List (Addr × List Int)) : mixT ps 0 = ps.map fun p => mkT p.1 p.2 := by
  unfold mixT
  apply List.ext_getElem?
  intro j
  rw [List.getElem?_mapIdx, List.getElem?_map]
  simp
theorem mixT_at {ps : List (Addr × List Int)} {i : Nat} {a : Addr} {g : List Int} (h : ps[i]? = some (a, g)) : (mixT ps i)[i]? = some (mkT a g) := by
  unfold mixT
  rw [List.getElem?_mapIdx, h]
  simp
theorem mixT_set {ps : List (Addr × List Int)} {i : Nat} {a : Addr} {g : List Int} (h : ps[i]? = some (a, g)) : (mixT ps i).set i (mkT a (g ++ [50 + (i : Int)])) = mixT ps (i + 1) := by
  unfold mixT
  apply List.ext_getElem?
  intro j
  have hi := (List.getElem?_eq_some_iff.mp h).1
  by_cases e : i = j
  · subst e
    rw [List.getElem?_set_self (by rw [List.length_mapIdx]; exact hi), List.getElem?_mapIdx, h]
    simp
  · rw [List.getElem?_set_ne e, List.getElem?_mapIdx, List.getElem?_mapIdx]
    cases ps[j]? with
    | none => rfl
    | some p =>
      show some (mkT p.1 (if j < i then p.2 ++ [50 + (j : Int)] else p.2)) = some (mkT p.1 (if j < i + 1 then p.2 ++ [50 + (j : Int)] else p.2))
      by_cases hj : j < i
      · rw [if_pos hj, if_pos (by omega)]
      · rw [if_neg hj, if_neg (by omega)]
theorem mixT_len (ps : List (Addr × List Int)) (i : Nat) : (mixT ps i).length = ps.length := by unfold mixT; rw [List.length_mapIdx]
def bentL (L : List (List Int)) : List (List Int) := L.mapIdx fun j g => g ++ [50 + (j : Int)]
theorem mixT_data {ps : List (Addr × List Int)} {i : Nat} (hi : ps.length ≤ i) : Tr.datas? (mixT ps i) = some ((bentL (ps.map (·.2))).map intL) := by
  have key : ∀ (L : List (Addr × List Int)), Tr.datas? (L.map fun p => mkT p.1 p.2) = some ((L.map (·.2)).map intL) := fun L => by
    induction L with
    | nil => rfl
    | cons p L ih =>
      rw [List.map_cons]
      unfold Tr.datas?
      rw [ih, ziT_data (t := mkT p.1 p.2) (g := p.2) ⟨p.1, rfl⟩]; rfl
  have e1 : mixT ps i = (ps.mapIdx fun j p => (p.1, p.2 ++ [50 + (j : Int)])).map fun p => mkT p.1 p.2 := by
    unfold mixT
    apply List.ext_getElem?
    intro j
    rw [List.getElem?_mapIdx, List.getElem?_map, List.getElem?_mapIdx]
    cases hp : ps[j]? with
    | none => rfl
    | some p =>
      have := (List.getElem?_eq_some_iff.mp hp).1
      show some (mkT p.1 (if j < i then p.2 ++ [50 + (j : Int)] else p.2)) = _
      rw [if_pos (by omega)]; rfl
  rw [e1, key]
  congr 2
  unfold bentL
  apply List.ext_getElem?
  intro j
  rw [List.getElem?_map, List.getElem?_mapIdx, List.getElem?_mapIdx, List.getElem?_map]
  cases ps[j]? <;> rfl
theorem roomsI_len {m n : Nat} (hm : m < 2 ^ n) : (roomsI m).length ≤ n := by
  have hnd : (roomsM m).Nodup := List.nodup_range.filter _
  have := hnd.length_le_of_subset (l₂ := List.range n) fun k hk => List.mem_range.mpr (roomsM_lt hm hk)
  unfold roomsI
  rw [List.length_map]
  rwa [List.length_range] at this
theorem stuckL_len {h : House} {g : List Int} (hg : g ∈ stuckL h) : g.length ≤ h.2.length := by
  have := (List.mergeSort_perm _ _).mem_iff.mp hg
  obtain ⟨m, hm, rfl⟩ := List.mem_map.mp this
  exact roomsI_len (mem_stuckM.mp hm).1
theorem stuckL_size (h : House) : (stuckL h).length ≤ 2 ^ h.2.length := by
  have h1 := (stuckM_nodup h).length_le_of_subset (l₂ := List.range (2 ^ h.2.length)) fun m hm => List.mem_range.mpr (mem_stuckM.mp hm).1
  unfold stuckL sortN
  rw [List.length_mergeSort, List.length_map]
  rwa [List.length_range] at h1
theorem eqv_self {n : Nat} {d : PyData} (h : Lay n d) : PyData.eqv d d = true := PySem.SeqAt.eqv_refl d h.1
theorem lay_intLs (L : List (List Int)) : Lay 2 (.list (L.map intL)) := lay_list fun d m => by
  obtain ⟨g, _, rfl⟩ := List.mem_map.mp m
  exact lay_intL g
theorem sets_right_use {O : OT} {h : House} {P : RV → List Cell → Prop} (gd : GoodHouse h) (hn : h.2.length ≤ 6) (hz : (allL h).length ≤ 100000) (q : P (.f (.bool true)) []) : TT_law_sets_right O [.d (houseD h), .d (.list ((stuckL h).map intL))] [] P := by
  have szl : 200000 < sizeLine := by decide
  have k1 : kitB "list" "list" = some true := by decide +kernel
  (first | simp_arith [TT_law_sets_right, tt_law_sets_right] | skip)
  refine ⟨by omega, by omega, ?_⟩
  refine forW_fun (fun k : Nat => PyData.int (k : Int)) (List.range 2) (fun _ => ⟨[some (.d (houseD h)), some (.d (.list ((stuckL h).map intL))), none, none, none, none], []⟩) rfl ?_ ?_
  · intro j y N2 hy hN2
    (first | simp_arith [onSome_some] | skip)
    refine stuck_t_use gd (by omega) hz fun p ts hts => ?_
    have hpd : (Tr.nd .lst p ts).data? = some (.list ((stuckL h).map intL)) := by
      show (Tr.datas? ts).map PyData.list = _
      rw [ziTs_data hts]; rfl
    (first | simp_all_arith! [k1, hpd] | skip)
    have hly := lay_intLs (stuckL h)
    have hsl := stuckL_size h
    have hp6 : 2 ^ h.2.length ≤ 2 ^ 6 := Nat.pow_le_pow_right (by decide) hn
    refine ⟨eqOk_lay hly hly, ?_⟩
    rw [eqv_self hly, if_neg (by decide)]
    obtain ⟨as, has, rfl⟩ := zi_addrs hts
    clear hts
    (first | simp_arith [forKA, asA_v] | skip)
    rw [← mixT_zero]
    have hlen : ∀ i, (mixT (as.zip (stuckL h)) i).length = (stuckL h).length := fun i => by
      rw [mixT_len, List.length_zip]; omega
    have hkl : ∀ i, (kids 0 [] (mixT (as.zip (stuckL h)) i)).length = (stuckL h).length := fun i => by
      unfold kids
      rw [List.length_mapIdx]; exact hlen i
    have hkk : ∀ i, kidsL ⟨[some (.d (houseD h)), some (.d (.list ((stuckL h).map intL))), some (.d (.int (y : Int))), some (.r 0), none, none], [.tr (.nd .lst p (mixT (as.zip (stuckL h)) i))]⟩ (.a p 0 []) = some (kids 0 [] (mixT (as.zip (stuckL h)) i)) := fun i => by
      unfold kidsL nodeAt
      simp [Tr.at, kidsN]
    refine ⟨rfl, kids 0 [] (mixT (as.zip (stuckL h)) 0), hkk 0, ?_⟩
    dsimp only
    rw [hkl 0]
    refine forK_fun (fun i => ⟨[some (.d (houseD h)), some (.d (.list ((stuckL h).map intL))), some (.d (.int (y : Int))), some (.r 0), none, none], [.tr (.nd .lst p (mixT (as.zip (stuckL h)) i))]⟩) rfl (fun i hi => ⟨_, hkk i, hkl i, ?_⟩) ⟨_, hkk _, hkl _⟩ ?_
    · have hz : (as.zip (stuckL h))[i]? = some (as[i]'(by omega), (stuckL h)[i]) := by
        rw [List.getElem?_zip_eq_some]
        exact ⟨List.getElem?_eq_getElem _, List.getElem?_eq_getElem _⟩
      have hz2 : (stuckL h)[i]? = some (stuckL h)[i] := List.getElem?_eq_getElem _
      generalize as[i]'(by omega) = a at hz
      generalize (stuckL h)[i] = g at hz hz2
      have hm := mixT_at hz
      refine ⟨.a a 0 [i], by rw [kidsAt, hm]; rfl, fun N hN => ?_⟩
      (first | simp_arith [yE, tup2N, seqV, hm, mkT, if_true] | skip)
      refine ⟨?_, hN _ ?_⟩
      · have := stuckL_len (List.mem_of_getElem? hz2)
        omega
      have e1 : Tr.nd Kd.lst a (List.map Tr.d (List.map PyData.int g) ++ [Tr.d (PyData.int (50 + (i : Int)))]) = mkT a (g ++ [50 + (i : Int)]) := by
        unfold mkT
        rw [List.map_append, List.map_append]; rfl
      rw [e1, mixT_set hz]
      exact wk_of [_] (by simp [SubS, ltO, AVal.lt, houseD, ksD]) rfl rfl (by simp)
    · dsimp only
      have hpd2 : (Tr.nd .lst p (mixT (as.zip (stuckL h)) (stuckL h).length)).data? = some (.list ((bentL (stuckL h)).map intL)) := by
        show (Tr.datas? _).map PyData.list = _
        rw [mixT_data (Nat.le_of_eq (by rw [List.length_zip]; omega)), List.map_snd_zip (by omega)]; rfl
      (first | simp_arith [hpd2] | skip)
      rw [enumsD_map intL (stuckL h)]
      refine lcW_map trivial (fun p : List Int × Nat => PyData.tuple [.int ((p.2 : Nat) : Int), intL p.1]) (fun _ => true) (fun p : List Int × Nat => intL (p.1 ++ [50 + (p.2 : Int)])) (fun p hp R1 R2 h1 h2 => ?_) ?_
      · have h1 := h1 rfl
        have hg := stuckL_len (h := h) (g := p.1) (by
          obtain ⟨j, hj⟩ := List.mem_iff_getElem?.mp hp
          rw [List.getElem?_zipIdx] at hj
          cases hs : (stuckL h)[j]? with
          | none => rw [hs] at hj; cases hj
          | some g =>
            rw [hs] at hj
            cases hj
            exact List.mem_of_getElem? hs)
        have e2 : intL (p.1 ++ [50 + (p.2 : Int)]) = .list (p.1.map PyData.int ++ [PyData.int (50 + (p.2 : Int))]) := by
          unfold intL; rw [List.map_append]; rfl
        rw [e2] at h1
        (first | simp_arith [intL] | skip)
        exact ⟨by omega, by omega, h1⟩
      have e3 : (stuckL h).zipIdx.map (fun p : List Int × Nat => intL (p.1 ++ [50 + (p.2 : Int)])) = (bentL (stuckL h)).map intL := by
        unfold bentL
        apply List.ext_getElem?
        intro j
        rw [List.getElem?_map, List.getElem?_map, List.getElem?_zipIdx, List.getElem?_mapIdx]
        cases (stuckL h)[j]? with
        | none => rfl
        | some g => simp
      rw [List.filter_eq_self.mpr fun _ _ => rfl, List.nil_append, e3]
      have hly2 := lay_intLs (bentL (stuckL h))
      have hml := hlen (stuckL h).length
      (first | simp_arith [hpd2] | skip)
      refine ⟨eqOk_lay hly2 hly2, ?_⟩
      rw [eqv_self hly2, if_neg (by decide)]
      intro f
      simp only [show ((0 : Nat) = 1) = False from eq_false (by decide), if_false]
      refine ⟨by omega, hN2 _ (wk_of [_, _] ?_ rfl rfl (by simp))⟩
      simp [SubS, ltO, AVal.lt, houseD, ksD]
  · (first | simp_arith [onSome_some] | skip)
    exact q
/-! part p_wo30 -/
/-! the law's worths -/
theorem pow28 (s : AS) (Q : VQ) : powA (.d (.int 10)) (.d (.int 28)) s Q = ((0 ≤ (28 : Int) ∧ (28 : Int) ≤ 1000000 ∧ (10 : Int).natAbs < 2 ^ 64) ∧ Q (.d (.int (10 ^ 28))) s) := by
  simp only [powA, intOp, AVal.int?_int, onSome_some, CPow]
  rfl
theorem worths_use {n m : Nat} {P : RV → List Cell → Prop} (hn : n ≤ 60) (hm : m + 3 * n + 3 ≤ 1000000) (q : ∀ (ws : List Nat) (m' : Nat), ws.length = n → m' ≤ m + 1 + 2 * n → P (.n (.lst (ws.map fun k : Nat => PyData.int (k : Int)))) [.pool m']) : TT_law_worths [.r 0, .d (.int (n : Int))] [.pool m] P := by
  have szl : 200000 < sizeLine := by decide
  (first | simp_arith [TT_law_worths, tt_law_worths] | skip)
  refine tTakeW_use (by omega) (by omega) (by omega) fun r hr => ?_
  (first | simp_arith [onSome_some] | skip)
  refine ⟨by omega, by omega, ?_⟩
  rw [intsD_natE]
  refine lcW_inv (fun k : Nat => PyData.int (k : Int)) (List.range n) (fun i acc cs => ∃ (ws : List Nat) (m' : Nat), acc = ws.map (fun k : Nat => PyData.int (k : Int)) ∧ ws.length = i ∧ m' ≤ m + 1 + 2 * i ∧ cs = [.pool m']) ⟨[], m + 1, rfl, rfl, by omega, rfl⟩ (fun _ _ _ _ => trivial) ?_ ?_
  · rintro j y acc cs R1 R2 hy ⟨ws, m', rfl, hwl, hm', rfl⟩ g1 g2
    have hj := (List.getElem?_eq_some_iff.mp hy).1
    rw [List.length_range] at hj
    (first | simp_arith [pow28] | skip)
    refine tTakeW_use (by omega) (by omega) (by omega) fun a1 ha1 => ?_
    (first | simp_arith [pow28] | skip)
    refine ⟨⟨by omega, by omega, by decide⟩, tTakeW_use (by omega) (by decide) (by decide) fun a2 ha2 => ?_⟩
    (first | simp_arith [pow28] | skip)
    obtain ⟨c, ec⟩ : ∃ c : Nat, L2.atI [PyData.int 1, PyData.int (a1 : Int), PyData.int 0, PyData.int (a2 : Int), PyData.int (7 * ((y : Int) % 2))] (r : Int) = some (.int (c : Int)) := by
      have : r = 0 ∨ r = 1 ∨ r = 2 ∨ r = 3 ∨ r = 4 := by omega
      rcases this with rfl | rfl | rfl | rfl | rfl
      · exact ⟨1, rfl⟩
      · exact ⟨a1, rfl⟩
      · exact ⟨0, rfl⟩
      · exact ⟨a2, rfl⟩
      · refine ⟨7 * (y % 2), ?_⟩
        show some _ = _
        congr 2
    (first | simp_arith [ec] | skip)
    refine ⟨by omega, ?_, by omega, g1 _ _ ⟨ws ++ [c], m' + 1 + 1, by rw [List.map_append]; rfl, by rw [List.length_append, hwl]; rfl, by omega, rfl⟩⟩
    unfold CMul
    omega
  · rintro acc cs ⟨ws, m', rfl, hwl, hm', rfl⟩
    rw [List.length_range] at hwl hm'
    (first | simp_arith [onSome_some] | skip)
    exact q ws m' hwl hm'
theorem srtD_nats (o : List Nat) : ∃ so : List Nat, srtD (o.map fun k : Nat => PyData.int (k : Int)) = some (so.map fun k : Nat => PyData.int (k : Int)) ∧ so.Perm o ∧ so.Pairwise (· ≤ ·) := by
  have p := List.mergeSort_perm o (fun a b : Nat => decide (a ≤ b))
  have hs : (o.mergeSort fun a b : Nat => decide (a ≤ b)).Pairwise (· ≤ ·) := by
    have := List.pairwise_mergeSort (le := fun a b : Nat => decide (a ≤ b)) (fun a b c h1 h2 => by simp at *; omega) (fun a b => by simp; omega) o
    exact this.imp fun h => of_decide_eq_true h
  refine ⟨_, ?_, p, hs⟩
  have e : (o.map fun k : Nat => PyData.int (k : Int)) = (o.map fun k : Nat => (k : Int)).map .int := by rw [List.map_map]; rfl
  have e2 : ∀ L : List Nat, (L.map fun k : Nat => PyData.int (k : Int)) = (L.map fun k : Nat => (k : Int)).map .int := fun L => by rw [List.map_map]; rfl
  rw [e, srtD_ints, e2]
  congr 2
  refine ints_unique ((srtI_perm _).trans (p.symm.map _)) (srtI_sorted _) ?_
  rw [List.pairwise_map]
  exact hs.imp fun h => by omega
theorem GoM.srt {h : House} {o : List Nat} {m : Nat} (g : GoM h o m) : srtD (o.map fun k : Nat => PyData.int (k : Int)) = some ((roomsM m).map fun k : Nat => PyData.int (k : Int)) := by
  obtain ⟨so, h1, h2, h3⟩ := srtD_nats o
  have hnd : (roomsM m).Nodup := List.nodup_range.filter _
  have hp : o.Perm (roomsM m) := (List.perm_ext_iff_of_nodup g.mem.1 hnd).mpr fun k => by rw [g.mem.2 k, mem_roomsM_iff]
  have hs : (roomsM m).Pairwise (· ≤ ·) := (List.pairwise_lt_range.filter _).imp fun h => Nat.le_of_lt h
  have : so = roomsM m := List.Perm.eq_of_pairwise (le := fun x y : Nat => x ≤ y) (fun x y _ _ h1 h2 => Nat.le_antisymm h1 h2) h3 hs (h2.trans hp)
  rw [h1, this]
/-- the stuck sets, as the law finds them -/
noncomputable def stuckS (h : House) : List (List Int) := ((allO h).filter fun o => (nextM h (maskOf o)).isEmpty).map fun o => roomsI (maskOf o)
structure DedI (S : List (List Int)) (i : Nat) (T : List (List Int)) : Prop where
  nd : T.Nodup
  srt : T.Pairwise fun p q => p ≤ q
  mem : ∀ g, g ∈ T ↔ g ∈ S.take i
theorem DedI.zero (S : List (List Int)) : DedI S 0 [] := ⟨List.nodup_nil, .nil, fun g => by simp⟩
theorem DedI.keep {S T : List (List Int)} {i : Nat} {g : List Int} (D : DedI S i T) (hg : S[i]? = some g) (h : g ∈ T) : DedI S (i + 1) T := by
  refine ⟨D.nd, D.srt, fun x => ?_⟩
  rw [List.take_add_one, hg, Option.toList_some, List.mem_append, List.mem_singleton, ← D.mem]
  exact ⟨.inl, fun z => z.elim id fun e => e ▸ h⟩
theorem DedI.add {S T : List (List Int)} {i : Nat} {g : List Int} (hs : S.Pairwise fun p q => p ≤ q) (D : DedI S i T) (hg : S[i]? = some g) (h : g ∉ T) : DedI S (i + 1) (T ++ [g]) := by
  refine ⟨List.nodup_append.mpr ⟨D.nd, by simp, fun a ha b hb => by rw [List.mem_singleton] at hb; subst hb; exact fun e => h (e ▸ ha)⟩, List.pairwise_append.mpr ⟨D.srt, List.pairwise_singleton .., fun a ha b hb => ?_⟩, fun x => ?_⟩
  · rw [List.mem_singleton] at hb; subst hb
    obtain ⟨j, hj⟩ := List.mem_iff_getElem?.mp ((D.mem a).mp ha)
    rw [List.getElem?_take] at hj
    split at hj
    · rename_i hji
      have h1 := (List.getElem?_eq_some_iff.mp hj)
      have h2 := (List.getElem?_eq_some_iff.mp hg)
      have := List.pairwise_iff_getElem.mp hs j i h1.1 h2.1 hji
      rwa [h1.2, h2.2] at this
    · cases hj
  · rw [List.take_add_one, hg, Option.toList_some, List.mem_append, List.mem_append, D.mem]
theorem stuck_ded {h : House} {T : List (List Int)} (D : DedI (sortN (stuckS h)) (sortN (stuckS h)).length T) : T = stuckL h := by
  have hm : ∀ g, g ∈ T ↔ g ∈ stuckL h := fun g => by
    rw [D.mem, List.take_length]
    unfold stuckL sortN
    rw [(List.mergeSort_perm _ _).mem_iff, (List.mergeSort_perm _ _).mem_iff]
    unfold stuckS
    rw [List.mem_map, List.mem_map]
    constructor
    · rintro ⟨o, ho, rfl⟩
      obtain ⟨h1, h2⟩ := List.mem_filter.mp ho
      obtain ⟨m, g⟩ := mem_allO.mp h1
      rw [g.mask] at h2 ⊢
      exact ⟨m, mem_stuckM.mpr ⟨g.rm.lt, g.rm, List.isEmpty_iff.mp h2⟩, rfl⟩
    · rintro ⟨m, hm, rfl⟩
      obtain ⟨h1, h2, h3⟩ := mem_stuckM.mp hm
      obtain ⟨o, g⟩ := h2.go
      exact ⟨o, List.mem_filter.mpr ⟨g.pre, by rw [g.mask, h3]; rfl⟩, by rw [g.mask]⟩
  have hnd : (stuckL h).Nodup := by
    unfold stuckL sortN
    refine (List.mergeSort_perm _ _).nodup_iff.mpr (List.pairwise_map.mpr ((stuckM_nodup h).imp_of_mem fun {a b} ha hb hne e => hne ?_))
    refine Nat.eq_of_testBit_eq fun i => ?_
    have e2 : roomsM a = roomsM b := by
      unfold roomsI at e
      exact zO_inj e
    have h1 := mem_roomsM_iff (m := a) (k := i)
    have h2 := mem_roomsM_iff (m := b) (k := i)
    rw [e2] at h1
    rw [Bool.eq_iff_iff, ← h1, ← h2]
  exact List.Perm.eq_of_pairwise (le := fun p q : List Int => p ≤ q) (fun a b _ _ h1 h2 => List.le_antisymm h1 h2) D.srt (sortN_sorted _) ((List.perm_ext_iff_of_nodup D.nd hnd).mpr hm)
theorem eqv_intL : ∀ a b : List Int, PyData.eqvAll (a.map .int) (b.map .int) = decide (a = b)
  | [], [] => by simp [PyData.eqvAll]
  | [], y :: b => by simp [PyData.eqvAll]
  | x :: a, [] => by simp [PyData.eqvAll]
  | x :: a, y :: b => by
    rw [List.map_cons, List.map_cons, PyData.eqvAll, eqv_intL a b]
    have e : PyData.eqv (.int x) (.int y) = decide (x = y) := by
      simp only [PyData.eqv]
      rw [Bool.eq_iff_iff]
      simp
    rw [e, Bool.eq_iff_iff]
    simp
theorem eqv_intD (a b : List Int) : PyData.eqv (intL a) (intL b) = decide (a = b) := by
  unfold intL
  simp only [PyData.eqv]
  exact eqv_intL a b
theorem any_intL (L : List (List Int)) (g : List Int) : ((L.map intL).any fun z => PyData.eqv z (intL g)) = decide (g ∈ L) := by
  induction L with
  | nil => simp
  | cons a L ih =>
    rw [List.map_cons, List.any_cons, ih, eqv_intD, Bool.eq_iff_iff]
    simp only [Bool.or_eq_true, decide_eq_true_eq, List.mem_cons]
    exact ⟨fun z => z.imp (fun e => e.symm) id, fun z => z.imp (fun e => e.symm) id⟩
/-! part p_law30 -/
/-! the law -/
theorem two_data (p p2 : Addr) (b : Nat) (o : List Nat) : (Tr.nd .tup p [Tr.d (.int (b : Int)), Tr.nd .lst p2 (((zO o).map PyData.int).map Tr.d)]).data? = some (.tuple [.int (b : Int), natsD o]) := by
  have e1 : (Tr.nd .lst p2 (((zO o).map PyData.int).map Tr.d)).data? = some (natsD o) := by rw [ziT_data (g := zO o) ⟨p2, rfl⟩, natsD_zO]
  show (Tr.datas? _).map PyData.tuple = _
  unfold Tr.datas?
  unfold Tr.datas?
  unfold Tr.datas?
  rw [e1]; rfl
theorem two_kid (n : Nat) (x : PyData) (p2 : Addr) (us : List Tr) : L2.atI (kids n [] [Tr.d x, Tr.nd .lst p2 us]) 1 = some (.a p2 n [1]) := by
  show L2.atI _ ((1 : Nat) : Int) = _
  rw [atI_natE]
  rfl
theorem lay_due (b : Nat) (o : List Nat) : Lay 2 (.tuple [.int (b : Int), natsD o]) := lay_tuple fun d m => by
  rcases List.mem_cons.mp m with rfl | m
  · exact Lay.up (n := 0) (m := 1) (lay_int _) (by decide)
  · rw [List.mem_singleton] at m
    subst m
    exact lay_natL o
theorem law_plain {K : PySem.W.Frag} {O : OT} (ns : List Int) (hl : ns.length ≤ 63) : TT_law K O [.s K ns] [] fun rv _ => rv = .f (.bool true) := by
  have szl : 200000 < sizeLine := by decide
  (first | simp_arith [TT_law, tt_law] | skip)
  obtain ⟨J, hJ, hJ8⟩ := maxmin ns.length 4 (by decide)
  rw [show max (1 : Int) (min 4 (ns.length : Int)) = (J : Int) from hJ]
  refine ⟨by omega, by omega, ?_⟩
  rw [intsD_natE]
  refine forW_fun _ (List.range J) (fun _ => ⟨[some (.s K ns), none, none, none, none, none, none, none, none, none, none, none, none, none, none], []⟩) rfl ?_ ?_
  · intro i x N hx hN
    have hx2 : x < J := by have := List.mem_of_getElem? hx; simpa using this
    (first | simp_arith [onSome_some] | skip)
    refine ⟨rfl, by omega, by omega, ?_⟩
    (first | simp_arith [onSome_some] | skip)
    refine tTakeW_use (by omega) (by omega) (by omega) fun r1 hr1 => ?_
    (first | simp_arith [onSome_some] | skip)
    refine ⟨by omega, tTakeW_use (by omega) (by omega) (by omega) fun r3 hr3 => ?_⟩
    obtain ⟨n, en, hn7⟩ : ∃ n : Nat, L2.atI [PyData.int (r1 : Int), PyData.int 6] (if decide ((r3 : Int) = 1) = true then 1 else 0) = some (.int (n : Int)) ∧ n ≤ 6 := by
      by_cases e : (r3 : Int) = 1
      · rw [if_pos (decide_eq_true e)]
        exact ⟨6, rfl, by omega⟩
      · rw [if_neg (by simpa using e)]
        exact ⟨r1, rfl, by omega⟩
    (first | simp_arith [en] | skip)
    refine dhouse_use (by omega) (by omega) fun h m1 dh hm1 => ?_
    have sm := dh.small (by omega)
    have gd := dh.good
    have hz := dh.all (by omega)
    have hr := dh.rooms
    (first | simp_all_arith! [onSome_some] | skip)
    refine worths_use (by omega) (by omega) fun ws m2 hwl hm2 => ?_
    (first | simp_all_arith! [onSome_some] | skip)
    refine lorders_use sm (by omega) ?_
    rw [show preM h 0 [] = allO h from rfl]
    have hwD : PyData.list (ws.map fun k : Nat => PyData.int (k : Int)) = natsD ws := rfl
    (first | simp_all_arith! [onSome_some] | skip)
    rw [hwD]
    have hne : allO h ≠ [] := List.ne_nil_of_mem (GoM.nil (h := h)).pre
    refine lcW_map trivial natsD (fun _ => true) (fun o : List Nat => PyData.int ((o.length : Nat) : Int)) (fun o ho R1 R2 h1 h2 => ?_) ?_
    · have h1 := h1 rfl
      (first | simp_arith [natsD] | skip)
      exact h1
    rw [List.filter_eq_self.mpr fun _ _ => rfl, List.nil_append]
    have e5 : ((allO h).map fun o : List Nat => PyData.int ((o.length : Nat) : Int)) = ((allO h).map List.length).map fun k : Nat => PyData.int (k : Int) := by rw [List.map_map]; rfl
    rw [e5]
    (first | simp_arith [bestDA] | skip)
    refine bestD_nat (by simpa using hne) fun x2 ys2 ex2 => ?_
    obtain ⟨b, hc1, hc2, hc3⟩ := maxD_nat ys2 x2
    rw [← ex2] at hc2 hc3
    rw [hc1]
    (first | simp_arith [onSome_some] | skip)
    refine lcW_map trivial natsD (fun o : List Nat => decide (o.length = b)) natsD (fun o ho R1 R2 h1 h2 => ?_) ?_
    · have ed : decide (((o.length : Nat) : Int) = (b : Int)) = decide (o.length = b) := decide_eq_decide.mpr (by omega)
      (first | simp_arith [natsD, ed] | skip)
      exact iteB h1 h2
    rw [List.nil_append]
    have hfm : ∀ o, o ∈ ((allO h).filter fun o : List Nat => decide (o.length = b)) ↔ o ∈ allO h ∧ o.length = b := fun o => by rw [List.mem_filter, decide_eq_true_eq]
    have hne4 : ((allO h).filter fun o : List Nat => decide (o.length = b)) ≠ [] := fun z => by
      obtain ⟨o, ho, e⟩ := List.mem_map.mp hc3
      have : o ∈ (allO h).filter fun o : List Nat => decide (o.length = b) := (hfm o).mpr ⟨ho, e⟩
      rw [z] at this
      cases this
    (first | simp_arith [bestDA] | skip)
    refine bestD_natL hne4 fun x3 ys3 ex3 => ?_
    obtain ⟨o, ho1, ho2, ho3⟩ := min_zO ys3 x3
    rw [ho1]
    rw [← ex3] at ho2 ho3
    have hB : BestR h b o := .of ((hfm o).mp ho2).1 ((hfm o).mp ho2).2 (fun x hx => hc2 _ (List.mem_map.mpr ⟨x, hx, rfl⟩)) fun x hx e => ho3 x ((hfm x).mpr ⟨hx, e⟩)
    clear ho1 ho2 ho3 ex3 hne4 hfm hc1 hc2 hc3 ex2
    (first | simp_arith [onSome_some] | skip)
    refine ⟨by omega, lcopy_use ?_⟩
    (first | simp_arith [natsD] | skip)
    rw [hwD]
    refine ⟨by omega, by omega, by omega, ?_⟩
    have hoD : PyData.list (o.map fun k : Nat => PyData.int (k : Int)) = natsD o := rfl
    rw [hoD]
    refine forW_fun (fun k : Nat => PyData.int (k : Int)) (List.range 2) (fun _ => ⟨[some (.s K ns), some (.d (.int (x : Int))), some (.r 0), some (.d (houseD h)), some (.d (natsD ws)), some (.d (.list ((allO h).map natsD))), some (.d (.int (b : Int))), none, some (.d (.tuple [.int (b : Int), natsD o])), some (.d (.list [houseD h, natsD ws])), none, none, none, none, none], [.pool m2]⟩) rfl ?_ ?_
    · intro j y N2 hy hN2
      have k1 : kitB "tuple" "tuple" = some true := by decide +kernel
      have k2 : kitB "list" "list" = some true := by decide +kernel
      (first | simp_all_arith! [onSome_some] | skip)
      refine most_rooms_t_use gd (by omega) (by omega) fun b' o' p p2 hB' => ?_
      obtain ⟨e1, e2⟩ := hB'.one hB
      subst e1 e2
      have hpd := two_data p p2 b' o'
      have hdl := lay_due b' o'
      (first | simp_all_arith! [onSome_some] | skip)
      have hkd := fun n => two_kid n (.int (b' : Int)) p2 (((zO o').map PyData.int).map Tr.d)
      (first | simp_arith [twoT, hpd, hkd, k1, k2] | skip)
      refine ⟨eqOk_lay hdl hdl, ?_⟩
      rw [eqv_self hdl, if_neg (by decide)]
      have hol : ∀ o2 : List Nat, (∃ m, GoM h o2 m) → (zO o2).length < sizeLine := fun o2 ⟨m, g⟩ => by
        have := g.len
        unfold zO
        rw [List.length_map]; omega
      refine ⟨hol o' hB'.go, most_worth_t_use gd (by omega) (by omega) hwl fun b2 o2 p3 p4 hW => ?_⟩
      have hkd2 := fun n => two_kid n (.int (b2 : Int)) p4 (((zO o2).map PyData.int).map Tr.d)
      have hpd2 := two_data p3 p4 b2 o2
      have hdl2 := lay_due b2 o2
      (first | simp_arith [twoT, hkd2, k1, k2] | skip)
      refine best_use hwl fun b3 o3 hW3 => ?_
      obtain ⟨e1, e2⟩ := hW.one hW3
      subst e1 e2
      (first | simp_arith [hpd2, hkd2] | skip)
      refine ⟨eqOk_lay hdl2 hdl2, ?_⟩
      rw [eqv_self hdl2, if_neg (by decide)]
      refine ⟨hol o2 hW.go, hN2 _ (wk_of [_, _] ?_ rfl rfl (by simp))⟩
      simp [SubS, ltO, AVal.lt, houseD, ksD, natsD]
    · (first | simp_all_arith! [onSome_some] | skip)
      refine lcW_map trivial natsD (fun o : List Nat => (nextM h (maskOf o)).isEmpty) (fun o : List Nat => intL (roomsI (maskOf o))) (fun o2 ho2 R1 R2 h1 h2 => ?_) ?_
      · (first | simp_arith [onSome_some] | skip)
        refine lnext_use sm (by omega) (Nat.le_trans (allO_len ho2) (by omega)) (allO_go ho2) ?_
        have he : ((nextM h (maskOf o2)).map fun k : Nat => PyData.int (k : Int)).isEmpty = (nextM h (maskOf o2)).isEmpty := List.isEmpty_map ..
        (first | simp_arith [natsD, he] | skip)
        refine iteB (fun e => ?_) h2
        obtain ⟨m, g⟩ := mem_allO.mp ho2
        rw [g.srt]
        refine ⟨_, rfl, ?_⟩
        dsimp only
        rw [roomsI_D, ← g.mask]
        exact h1 e
      rw [List.nil_append]
      have eS : ((allO h).filter fun o : List Nat => (nextM h (maskOf o)).isEmpty).map (fun o : List Nat => intL (roomsI (maskOf o))) = (stuckS h).map intL := by
        unfold stuckS
        rw [List.map_map]; rfl
      rw [eS]
      refine ⟨sorta_intL _, ?_⟩
      rw [sortN_D]
      (first | simp_arith [onSome_some] | skip)
      refine forW_map intL (sortN (stuckS h)) (fun i s => ∃ T, DedI (sortN (stuckS h)) i T ∧ s = ⟨[some (.s K ns), some (.d (.int (x : Int))), some (.r 0), some (.d (houseD h)), some (.d (natsD ws)), some (.d (.list ((allO h).map natsD))), some (.d (.int (b : Int))), none, some (.d (.tuple [.int (b : Int), natsD o])), some (.d (.list [houseD h, natsD ws])), none, none, some (.d (.list ((stuckS h).map intL))), some (.r 1), none], [.pool m2, .lst (T.map intL)]⟩) ⟨[], .zero _, rfl⟩ ?_ ?_
      · rintro i g s' N2 hg ⟨T, D, rfl⟩ hN2
        (first | simp_arith [onSome_some] | skip)
        have hTl : T.length ≤ 2000 := by
          have h1 := D.nd.length_le_of_subset (l₂ := (sortN (stuckS h)).take i) fun g hg => (D.mem g).mp hg
          have h2 : (sortN (stuckS h)).length ≤ (allO h).length := by
            unfold sortN stuckS
            rw [List.length_mergeSort, List.length_map]
            exact List.length_filter_le ..
          rw [List.length_take] at h1
          have h3 : (allO h).length ≤ 1957 := by
            have h3 := pre_len (h := h) (leftM h 0) 0 [] rfl
            have h4 := left_le h 0
            have h5 := cntO_mono (show leftM h 0 ≤ 6 by omega)
            rw [cntO_six] at h5
            exact Nat.le_trans h3 h5
          omega
        refine ⟨_, rfl, _, rfl, ?_⟩
        refine ⟨⟨(lay_intL g).shaped (by decide), (lay_intLs T).shaped (by decide)⟩, ?_⟩
        dsimp only
        rw [any_intL]
        by_cases hgt : g ∈ T
        · rw [decide_eq_true hgt, if_neg (by decide)]
          exact hN2 _ ⟨[some (.s K ns), some (.d (.int (x : Int))), some (.r 0), some (.d (houseD h)), some (.d (natsD ws)), some (.d (.list ((allO h).map natsD))), some (.d (.int (b : Int))), none, some (.d (.tuple [.int (b : Int), natsD o])), some (.d (.list [houseD h, natsD ws])), none, none, some (.d (.list ((stuckS h).map intL))), some (.r 1), none], [.pool m2, .lst (T.map intL)]⟩ (wk_of [] (by simp [SubS, ltO, AVal.lt, houseD, ksD, natsD]) rfl rfl (by simp)) ⟨T, D.keep hg hgt, rfl⟩
        · rw [decide_eq_false hgt, if_pos (by decide)]
          (first | simp_arith [List.length_map] | skip)
          rw [show T.map intL ++ [intL g] = (T ++ [g]).map intL by rw [List.map_append]; rfl]
          exact ⟨by omega, hN2 _ ⟨[some (.s K ns), some (.d (.int (x : Int))), some (.r 0), some (.d (houseD h)), some (.d (natsD ws)), some (.d (.list ((allO h).map natsD))), some (.d (.int (b : Int))), none, some (.d (.tuple [.int (b : Int), natsD o])), some (.d (.list [houseD h, natsD ws])), none, none, some (.d (.list ((stuckS h).map intL))), some (.r 1), none], [.pool m2, .lst ((T ++ [g]).map intL)]⟩ (wk_of [] (by simp [SubS, ltO, AVal.lt, houseD, ksD, natsD]) rfl rfl (by simp)) ⟨T ++ [g], D.add (sortN_sorted _) hg hgt, rfl⟩⟩
      · rintro s' ⟨T, D, rfl⟩
        obtain rfl := stuck_ded D
        (first | simp_arith [onSome_some] | skip)
        refine sets_right_use gd (by omega) (by omega) ?_
        have elh : Lay 60 (PyData.list [houseD h, natsD ws]) := (lay_list (n := 59) fun d m => by
          rcases List.mem_cons.mp m with rfl | m
          · exact (lay_house gd).up (by decide)
          · rw [List.mem_singleton] at m
            subst m
            exact Lay.up (lay_natL ws) (by decide))
        (first | simp_arith [onSome_some] | skip)
        refine ⟨by omega, eqOk_lay elh elh, iteE (lay_self elh) ?_⟩
        refine hN _ (wk_of [_, _] ?_ rfl rfl (by simp))
        simp [SubS, ltO, AVal.lt]
  · (first | simp_arith [onSome_some] | skip)
theorem ok_law {P : Program} {w : World} {K : PySem.W.Frag} {mg : Str → Option Value} {base : Heap} (T : Tx K mg) : FnOk P w K mg base CX0 20 T.f_law T.d_law ["script"] (spLaw K) := okLaw_A (kk_law T) law_plain
end Kr
namespace Kr
open PySem L2
theorem all_mk {l : PySem.W.OpenLaw} {w : World} {K : PySem.W.Frag} {h : Heap} {mg : Str → Option Value} {fa : Addr} (X : K.In h) (G : h.Ns mainGlobals mg) (hfa : mg "law" = some (.ref fa))
    {f_is_kind : Addr} {od0 an0 : Option Addr} {sl0 : Array (Option Value)} {oc0 kV0 dc0 pm0 cd0 ct0 : Value}
    {f_are_keys : Addr} {od1 an1 : Option Addr} {sl1 : Array (Option Value)} {oc1 kV1 dc1 pm1 cd1 ct1 : Value}
    {f_is_room : Addr} {od2 an2 : Option Addr} {sl2 : Array (Option Value)} {oc2 kV2 dc2 pm2 cd2 ct2 : Value}
    {f_is_house : Addr} {od3 an3 : Option Addr} {sl3 : Array (Option Value)} {oc3 kV3 dc3 pm3 cd3 ct3 : Value}
    {f_need_house : Addr} {od4 an4 : Option Addr} {sl4 : Array (Option Value)} {oc4 kV4 dc4 pm4 cd4 ct4 : Value}
    {f_need_few : Addr} {od5 an5 : Option Addr} {sl5 : Array (Option Value)} {oc5 kV5 dc5 pm5 cd5 ct5 : Value}
    {f_counted_kinds : Addr} {od6 an6 : Option Addr} {sl6 : Array (Option Value)} {oc6 kV6 dc6 pm6 cd6 ct6 : Value}
    {f_rooms_of : Addr} {od7 an7 : Option Addr} {sl7 : Array (Option Value)} {oc7 kV7 dc7 pm7 cd7 ct7 : Value}
    {f_sets_that_come : Addr} {od8 an8 : Option Addr} {sl8 : Array (Option Value)} {oc8 kV8 dc8 pm8 cd8 ct8 : Value}
    {f_need_worths : Addr} {od9 an9 : Option Addr} {sl9 : Array (Option Value)} {oc9 kV9 dc9 pm9 cd9 ct9 : Value}
    {f_worth_of : Addr} {od10 an10 : Option Addr} {sl10 : Array (Option Value)} {oc10 kV10 dc10 pm10 cd10 ct10 : Value}
    {f_most_rooms : Addr} {od11 an11 : Option Addr} {sl11 : Array (Option Value)} {oc11 kV11 dc11 pm11 cd11 ct11 : Value}
    {f_stuck_sets : Addr} {od12 an12 : Option Addr} {sl12 : Array (Option Value)} {oc12 kV12 dc12 pm12 cd12 ct12 : Value}
    {f_most_worth : Addr} {od13 an13 : Option Addr} {sl13 : Array (Option Value)} {oc13 kV13 dc13 pm13 cd13 ct13 : Value}
    {f_law_pool : Addr} {od14 an14 : Option Addr} {sl14 : Array (Option Value)} {oc14 kV14 dc14 pm14 cd14 ct14 : Value}
    {f_law_draw : Addr} {od15 an15 : Option Addr} {sl15 : Array (Option Value)} {oc15 kV15 dc15 pm15 cd15 ct15 : Value}
    {f_law_kinds : Addr} {od16 an16 : Option Addr} {sl16 : Array (Option Value)} {oc16 kV16 dc16 pm16 cd16 ct16 : Value}
    {f_law_words : Addr} {od17 an17 : Option Addr} {sl17 : Array (Option Value)} {oc17 kV17 dc17 pm17 cd17 ct17 : Value}
    {f_law_house : Addr} {od18 an18 : Option Addr} {sl18 : Array (Option Value)} {oc18 kV18 dc18 pm18 cd18 ct18 : Value}
    {f_law_next : Addr} {od19 an19 : Option Addr} {sl19 : Array (Option Value)} {oc19 kV19 dc19 pm19 cd19 ct19 : Value}
    {f_law_orders : Addr} {od20 an20 : Option Addr} {sl20 : Array (Option Value)} {oc20 kV20 dc20 pm20 cd20 ct20 : Value}
    {f_law_copy : Addr} {od21 an21 : Option Addr} {sl21 : Array (Option Value)} {oc21 kV21 dc21 pm21 cd21 ct21 : Value}
    {f_law_worths : Addr} {od22 an22 : Option Addr} {sl22 : Array (Option Value)} {oc22 kV22 dc22 pm22 cd22 ct22 : Value}
    {f_law_worth : Addr} {od23 an23 : Option Addr} {sl23 : Array (Option Value)} {oc23 kV23 dc23 pm23 cd23 ct23 : Value}
    {f_law_best : Addr} {od24 an24 : Option Addr} {sl24 : Array (Option Value)} {oc24 kV24 dc24 pm24 cd24 ct24 : Value}
    {f_law_sets_right : Addr} {od25 an25 : Option Addr} {sl25 : Array (Option Value)} {oc25 kV25 dc25 pm25 cd25 ct25 : Value}
    {f_law : Addr} {od26 an26 : Option Addr} {sl26 : Array (Option Value)} {oc26 kV26 dc26 pm26 cd26 ct26 : Value}
    {f_Opened_init : Addr} {od27 an27 : Option Addr} {sl27 : Array (Option Value)} {oc27 kV27 dc27 pm27 cd27 ct27 : Value}
    {ow_Opened : Addr}
    {f_Opened_hand_at : Addr} {od28 an28 : Option Addr} {sl28 : Array (Option Value)} {oc28 kV28 dc28 pm28 cd28 ct28 : Value}
    {f_Opened_next_at : Addr} {od29 an29 : Option Addr} {sl29 : Array (Option Value)} {oc29 kV29 dc29 pm29 cd29 ct29 : Value}
    {t_LETTERS : Tok}
    {t_LONGEST_KIND : Tok}
    {t_MOST_LOCKS : Tok}
    {t_MOST_ROOMS : Tok}
    (a_is_kind : PySem.W.nsIn K mainGlobals "is_kind" = some (some (.ref f_is_kind)))
    (l_is_kind : K.lookup f_is_kind = some ⟨oc0, od0, .func (PySem.W.fnOf "is_kind" "is_kind" (defArgs s_is_kind) (defBody s_is_kind) (defScope s_is_kind) .none kV0 dc0 pm0 an0 cd0 ct0), sl0⟩)
    (e_is_kind : PySem.W.codeIn K cd0 "is_kind" = true) (k_is_kind : PySem.W.keepIn K (.ref f_is_kind) = true)
    (a_are_keys : PySem.W.nsIn K mainGlobals "are_keys" = some (some (.ref f_are_keys)))
    (l_are_keys : K.lookup f_are_keys = some ⟨oc1, od1, .func (PySem.W.fnOf "are_keys" "are_keys" (defArgs s_are_keys) (defBody s_are_keys) (defScope s_are_keys) .none kV1 dc1 pm1 an1 cd1 ct1), sl1⟩)
    (e_are_keys : PySem.W.codeIn K cd1 "are_keys" = true) (k_are_keys : PySem.W.keepIn K (.ref f_are_keys) = true)
    (a_is_room : PySem.W.nsIn K mainGlobals "is_room" = some (some (.ref f_is_room)))
    (l_is_room : K.lookup f_is_room = some ⟨oc2, od2, .func (PySem.W.fnOf "is_room" "is_room" (defArgs s_is_room) (defBody s_is_room) (defScope s_is_room) .none kV2 dc2 pm2 an2 cd2 ct2), sl2⟩)
    (e_is_room : PySem.W.codeIn K cd2 "is_room" = true) (k_is_room : PySem.W.keepIn K (.ref f_is_room) = true)
    (a_is_house : PySem.W.nsIn K mainGlobals "is_house" = some (some (.ref f_is_house)))
    (l_is_house : K.lookup f_is_house = some ⟨oc3, od3, .func (PySem.W.fnOf "is_house" "is_house" (defArgs s_is_house) (defBody s_is_house) (defScope s_is_house) .none kV3 dc3 pm3 an3 cd3 ct3), sl3⟩)
    (e_is_house : PySem.W.codeIn K cd3 "is_house" = true) (k_is_house : PySem.W.keepIn K (.ref f_is_house) = true)
    (a_need_house : PySem.W.nsIn K mainGlobals "need_house" = some (some (.ref f_need_house)))
    (l_need_house : K.lookup f_need_house = some ⟨oc4, od4, .func (PySem.W.fnOf "need_house" "need_house" (defArgs s_need_house) (defBody s_need_house) (defScope s_need_house) .none kV4 dc4 pm4 an4 cd4 ct4), sl4⟩)
    (e_need_house : PySem.W.codeIn K cd4 "need_house" = true) (k_need_house : PySem.W.keepIn K (.ref f_need_house) = true)
    (a_need_few : PySem.W.nsIn K mainGlobals "need_few" = some (some (.ref f_need_few)))
    (l_need_few : K.lookup f_need_few = some ⟨oc5, od5, .func (PySem.W.fnOf "need_few" "need_few" (defArgs s_need_few) (defBody s_need_few) (defScope s_need_few) .none kV5 dc5 pm5 an5 cd5 ct5), sl5⟩)
    (e_need_few : PySem.W.codeIn K cd5 "need_few" = true) (k_need_few : PySem.W.keepIn K (.ref f_need_few) = true)
    (a_counted_kinds : PySem.W.nsIn K mainGlobals "counted_kinds" = some (some (.ref f_counted_kinds)))
    (l_counted_kinds : K.lookup f_counted_kinds = some ⟨oc6, od6, .func (PySem.W.fnOf "counted_kinds" "counted_kinds" (defArgs s_counted_kinds) (defBody s_counted_kinds) (defScope s_counted_kinds) .none kV6 dc6 pm6 an6 cd6 ct6), sl6⟩)
    (e_counted_kinds : PySem.W.codeIn K cd6 "counted_kinds" = true) (k_counted_kinds : PySem.W.keepIn K (.ref f_counted_kinds) = true)
    (a_rooms_of : PySem.W.nsIn K mainGlobals "rooms_of" = some (some (.ref f_rooms_of)))
    (l_rooms_of : K.lookup f_rooms_of = some ⟨oc7, od7, .func (PySem.W.fnOf "rooms_of" "rooms_of" (defArgs s_rooms_of) (defBody s_rooms_of) (defScope s_rooms_of) .none kV7 dc7 pm7 an7 cd7 ct7), sl7⟩)
    (e_rooms_of : PySem.W.codeIn K cd7 "rooms_of" = true) (k_rooms_of : PySem.W.keepIn K (.ref f_rooms_of) = true)
    (a_sets_that_come : PySem.W.nsIn K mainGlobals "sets_that_come" = some (some (.ref f_sets_that_come)))
    (l_sets_that_come : K.lookup f_sets_that_come = some ⟨oc8, od8, .func (PySem.W.fnOf "sets_that_come" "sets_that_come" (defArgs s_sets_that_come) (defBody s_sets_that_come) (defScope s_sets_that_come) .none kV8 dc8 pm8 an8 cd8 ct8), sl8⟩)
    (e_sets_that_come : PySem.W.codeIn K cd8 "sets_that_come" = true) (k_sets_that_come : PySem.W.keepIn K (.ref f_sets_that_come) = true)
    (a_need_worths : PySem.W.nsIn K mainGlobals "need_worths" = some (some (.ref f_need_worths)))
    (l_need_worths : K.lookup f_need_worths = some ⟨oc9, od9, .func (PySem.W.fnOf "need_worths" "need_worths" (defArgs s_need_worths) (defBody s_need_worths) (defScope s_need_worths) .none kV9 dc9 pm9 an9 cd9 ct9), sl9⟩)
    (e_need_worths : PySem.W.codeIn K cd9 "need_worths" = true) (k_need_worths : PySem.W.keepIn K (.ref f_need_worths) = true)
    (a_worth_of : PySem.W.nsIn K mainGlobals "worth_of" = some (some (.ref f_worth_of)))
    (l_worth_of : K.lookup f_worth_of = some ⟨oc10, od10, .func (PySem.W.fnOf "worth_of" "worth_of" (defArgs s_worth_of) (defBody s_worth_of) (defScope s_worth_of) .none kV10 dc10 pm10 an10 cd10 ct10), sl10⟩)
    (e_worth_of : PySem.W.codeIn K cd10 "worth_of" = true) (k_worth_of : PySem.W.keepIn K (.ref f_worth_of) = true)
    (a_most_rooms : PySem.W.nsIn K mainGlobals "most_rooms" = some (some (.ref f_most_rooms)))
    (l_most_rooms : K.lookup f_most_rooms = some ⟨oc11, od11, .func (PySem.W.fnOf "most_rooms" "most_rooms" (defArgs s_most_rooms) (defBody s_most_rooms) (defScope s_most_rooms) .none kV11 dc11 pm11 an11 cd11 ct11), sl11⟩)
    (e_most_rooms : PySem.W.codeIn K cd11 "most_rooms" = true) (k_most_rooms : PySem.W.keepIn K (.ref f_most_rooms) = true)
    (a_stuck_sets : PySem.W.nsIn K mainGlobals "stuck_sets" = some (some (.ref f_stuck_sets)))
    (l_stuck_sets : K.lookup f_stuck_sets = some ⟨oc12, od12, .func (PySem.W.fnOf "stuck_sets" "stuck_sets" (defArgs s_stuck_sets) (defBody s_stuck_sets) (defScope s_stuck_sets) .none kV12 dc12 pm12 an12 cd12 ct12), sl12⟩)
    (e_stuck_sets : PySem.W.codeIn K cd12 "stuck_sets" = true) (k_stuck_sets : PySem.W.keepIn K (.ref f_stuck_sets) = true)
    (a_most_worth : PySem.W.nsIn K mainGlobals "most_worth" = some (some (.ref f_most_worth)))
    (l_most_worth : K.lookup f_most_worth = some ⟨oc13, od13, .func (PySem.W.fnOf "most_worth" "most_worth" (defArgs s_most_worth) (defBody s_most_worth) (defScope s_most_worth) .none kV13 dc13 pm13 an13 cd13 ct13), sl13⟩)
    (e_most_worth : PySem.W.codeIn K cd13 "most_worth" = true) (k_most_worth : PySem.W.keepIn K (.ref f_most_worth) = true)
    (a_law_pool : PySem.W.nsIn K mainGlobals "_law_pool" = some (some (.ref f_law_pool)))
    (l_law_pool : K.lookup f_law_pool = some ⟨oc14, od14, .func (PySem.W.fnOf "_law_pool" "_law_pool" (defArgs s_law_pool) (defBody s_law_pool) (defScope s_law_pool) .none kV14 dc14 pm14 an14 cd14 ct14), sl14⟩)
    (e_law_pool : PySem.W.codeIn K cd14 "_law_pool" = true) (k_law_pool : PySem.W.keepIn K (.ref f_law_pool) = true)
    (a_law_draw : PySem.W.nsIn K mainGlobals "_law_draw" = some (some (.ref f_law_draw)))
    (l_law_draw : K.lookup f_law_draw = some ⟨oc15, od15, .func (PySem.W.fnOf "_law_draw" "_law_draw" (defArgs s_law_draw) (defBody s_law_draw) (defScope s_law_draw) .none kV15 dc15 pm15 an15 cd15 ct15), sl15⟩)
    (e_law_draw : PySem.W.codeIn K cd15 "_law_draw" = true) (k_law_draw : PySem.W.keepIn K (.ref f_law_draw) = true)
    (a_law_kinds : PySem.W.nsIn K mainGlobals "_law_kinds" = some (some (.ref f_law_kinds)))
    (l_law_kinds : K.lookup f_law_kinds = some ⟨oc16, od16, .func (PySem.W.fnOf "_law_kinds" "_law_kinds" (defArgs s_law_kinds) (defBody s_law_kinds) (defScope s_law_kinds) .none kV16 dc16 pm16 an16 cd16 ct16), sl16⟩)
    (e_law_kinds : PySem.W.codeIn K cd16 "_law_kinds" = true) (k_law_kinds : PySem.W.keepIn K (.ref f_law_kinds) = true)
    (a_law_words : PySem.W.nsIn K mainGlobals "_law_words" = some (some (.ref f_law_words)))
    (l_law_words : K.lookup f_law_words = some ⟨oc17, od17, .func (PySem.W.fnOf "_law_words" "_law_words" (defArgs s_law_words) (defBody s_law_words) (defScope s_law_words) .none kV17 dc17 pm17 an17 cd17 ct17), sl17⟩)
    (e_law_words : PySem.W.codeIn K cd17 "_law_words" = true) (k_law_words : PySem.W.keepIn K (.ref f_law_words) = true)
    (a_law_house : PySem.W.nsIn K mainGlobals "_law_house" = some (some (.ref f_law_house)))
    (l_law_house : K.lookup f_law_house = some ⟨oc18, od18, .func (PySem.W.fnOf "_law_house" "_law_house" (defArgs s_law_house) (defBody s_law_house) (defScope s_law_house) .none kV18 dc18 pm18 an18 cd18 ct18), sl18⟩)
    (e_law_house : PySem.W.codeIn K cd18 "_law_house" = true) (k_law_house : PySem.W.keepIn K (.ref f_law_house) = true)
    (a_law_next : PySem.W.nsIn K mainGlobals "_law_next" = some (some (.ref f_law_next)))
    (l_law_next : K.lookup f_law_next = some ⟨oc19, od19, .func (PySem.W.fnOf "_law_next" "_law_next" (defArgs s_law_next) (defBody s_law_next) (defScope s_law_next) .none kV19 dc19 pm19 an19 cd19 ct19), sl19⟩)
    (e_law_next : PySem.W.codeIn K cd19 "_law_next" = true) (k_law_next : PySem.W.keepIn K (.ref f_law_next) = true)
    (a_law_orders : PySem.W.nsIn K mainGlobals "_law_orders" = some (some (.ref f_law_orders)))
    (l_law_orders : K.lookup f_law_orders = some ⟨oc20, od20, .func (PySem.W.fnOf "_law_orders" "_law_orders" (defArgs s_law_orders) (defBody s_law_orders) (defScope s_law_orders) .none kV20 dc20 pm20 an20 cd20 ct20), sl20⟩)
    (e_law_orders : PySem.W.codeIn K cd20 "_law_orders" = true) (k_law_orders : PySem.W.keepIn K (.ref f_law_orders) = true)
    (a_law_copy : PySem.W.nsIn K mainGlobals "_law_copy" = some (some (.ref f_law_copy)))
    (l_law_copy : K.lookup f_law_copy = some ⟨oc21, od21, .func (PySem.W.fnOf "_law_copy" "_law_copy" (defArgs s_law_copy) (defBody s_law_copy) (defScope s_law_copy) .none kV21 dc21 pm21 an21 cd21 ct21), sl21⟩)
    (e_law_copy : PySem.W.codeIn K cd21 "_law_copy" = true) (k_law_copy : PySem.W.keepIn K (.ref f_law_copy) = true)
    (a_law_worths : PySem.W.nsIn K mainGlobals "_law_worths" = some (some (.ref f_law_worths)))
    (l_law_worths : K.lookup f_law_worths = some ⟨oc22, od22, .func (PySem.W.fnOf "_law_worths" "_law_worths" (defArgs s_law_worths) (defBody s_law_worths) (defScope s_law_worths) .none kV22 dc22 pm22 an22 cd22 ct22), sl22⟩)
    (e_law_worths : PySem.W.codeIn K cd22 "_law_worths" = true) (k_law_worths : PySem.W.keepIn K (.ref f_law_worths) = true)
    (a_law_worth : PySem.W.nsIn K mainGlobals "_law_worth" = some (some (.ref f_law_worth)))
    (l_law_worth : K.lookup f_law_worth = some ⟨oc23, od23, .func (PySem.W.fnOf "_law_worth" "_law_worth" (defArgs s_law_worth) (defBody s_law_worth) (defScope s_law_worth) .none kV23 dc23 pm23 an23 cd23 ct23), sl23⟩)
    (e_law_worth : PySem.W.codeIn K cd23 "_law_worth" = true) (k_law_worth : PySem.W.keepIn K (.ref f_law_worth) = true)
    (a_law_best : PySem.W.nsIn K mainGlobals "_law_best" = some (some (.ref f_law_best)))
    (l_law_best : K.lookup f_law_best = some ⟨oc24, od24, .func (PySem.W.fnOf "_law_best" "_law_best" (defArgs s_law_best) (defBody s_law_best) (defScope s_law_best) .none kV24 dc24 pm24 an24 cd24 ct24), sl24⟩)
    (e_law_best : PySem.W.codeIn K cd24 "_law_best" = true) (k_law_best : PySem.W.keepIn K (.ref f_law_best) = true)
    (a_law_sets_right : PySem.W.nsIn K mainGlobals "_law_sets_right" = some (some (.ref f_law_sets_right)))
    (l_law_sets_right : K.lookup f_law_sets_right = some ⟨oc25, od25, .func (PySem.W.fnOf "_law_sets_right" "_law_sets_right" (defArgs s_law_sets_right) (defBody s_law_sets_right) (defScope s_law_sets_right) .none kV25 dc25 pm25 an25 cd25 ct25), sl25⟩)
    (e_law_sets_right : PySem.W.codeIn K cd25 "_law_sets_right" = true) (k_law_sets_right : PySem.W.keepIn K (.ref f_law_sets_right) = true)
    (a_law : PySem.W.nsIn K mainGlobals "law" = some (some (.ref f_law)))
    (l_law : K.lookup f_law = some ⟨oc26, od26, .func (PySem.W.fnOf "law" "law" (defArgs s_law) (defBody s_law) (defScope s_law) .none kV26 dc26 pm26 an26 cd26 ct26), sl26⟩)
    (e_law : PySem.W.codeIn K cd26 "law" = true) (k_law : PySem.W.keepIn K (.ref f_law) = true)
    (e_Opened : PySem.W.nsIn K mainGlobals "Opened" = some (some (.ref ow_Opened)))
    (cg_Opened : PySem.W.plainGet K ow_Opened Str.empty = true)
    (ch_Opened : PySem.W.hasDictIn K ow_Opened = true)
    (co_Opened : PySem.W.plainOver K ow_Opened = true)
    (cs_Opened : PySem.W.findIn K (.ref ow_Opened) "__setattr__" = some (some (.builtin "object.__setattr__")))
    (cm_Opened : PySem.W.makesIn K ow_Opened = true)
    (ck_Opened : PySem.W.keepIn K (.ref ow_Opened) = true)
    (na_Opened_locks : PySem.W.findIn K (.ref ow_Opened) "locks" = some none)
    (na_Opened_within : PySem.W.findIn K (.ref ow_Opened) "within" = some none)
    (na_Opened_many : PySem.W.findIn K (.ref ow_Opened) "many" = some none)
    (na_Opened_all_rooms : PySem.W.findIn K (.ref ow_Opened) "all_rooms" = some none)
    (na_Opened_hands : PySem.W.findIn K (.ref ow_Opened) "hands" = some none)
    (na_Opened_goings : PySem.W.findIn K (.ref ow_Opened) "goings" = some none)
    (na_Opened_ends : PySem.W.findIn K (.ref ow_Opened) "ends" = some none)
    (i_Opened_init : PySem.W.findIn K (.ref ow_Opened) "__init__" = some (some (.ref f_Opened_init))) (n_Opened_init : PySem.W.isFn K (.ref f_Opened_init) = true)
    (l_Opened_init : K.lookup f_Opened_init = some ⟨oc27, od27, .func (PySem.W.fnOf "__init__" "Opened.__init__" (defArgs s_Opened_init) (defBody s_Opened_init) (defScope s_Opened_init) .none kV27 dc27 pm27 an27 cd27 ct27), sl27⟩)
    (e_Opened_init : PySem.W.codeIn K cd27 "Opened.__init__" = true) (k_Opened_init : PySem.W.keepIn K (.ref f_Opened_init) = true)
    (i_Opened_hand_at : PySem.W.findIn K (.ref ow_Opened) "hand_at" = some (some (.ref f_Opened_hand_at))) (n_Opened_hand_at : PySem.W.isFn K (.ref f_Opened_hand_at) = true)
    (l_Opened_hand_at : K.lookup f_Opened_hand_at = some ⟨oc28, od28, .func (PySem.W.fnOf "hand_at" "Opened.hand_at" (defArgs s_Opened_hand_at) (defBody s_Opened_hand_at) (defScope s_Opened_hand_at) .none kV28 dc28 pm28 an28 cd28 ct28), sl28⟩)
    (e_Opened_hand_at : PySem.W.codeIn K cd28 "Opened.hand_at" = true) (k_Opened_hand_at : PySem.W.keepIn K (.ref f_Opened_hand_at) = true)
    (i_Opened_next_at : PySem.W.findIn K (.ref ow_Opened) "next_at" = some (some (.ref f_Opened_next_at))) (n_Opened_next_at : PySem.W.isFn K (.ref f_Opened_next_at) = true)
    (l_Opened_next_at : K.lookup f_Opened_next_at = some ⟨oc29, od29, .func (PySem.W.fnOf "next_at" "Opened.next_at" (defArgs s_Opened_next_at) (defBody s_Opened_next_at) (defScope s_Opened_next_at) .none kV29 dc29 pm29 an29 cd29 ct29), sl29⟩)
    (e_Opened_next_at : PySem.W.codeIn K cd29 "Opened.next_at" = true) (k_Opened_next_at : PySem.W.keepIn K (.ref f_Opened_next_at) = true)
    (z_isinstance : PySem.W.nsIn K mainGlobals "isinstance" = some none)
    (z_str : PySem.W.nsIn K mainGlobals "str" = some none)
    (z_len : PySem.W.nsIn K mainGlobals "len" = some none)
    (z_list : PySem.W.nsIn K mainGlobals "list" = some none)
    (z_tuple : PySem.W.nsIn K mainGlobals "tuple" = some none)
    (z_sorted : PySem.W.nsIn K mainGlobals "sorted" = some none)
    (z_range : PySem.W.nsIn K mainGlobals "range" = some none)
    (z_bool : PySem.W.nsIn K mainGlobals "bool" = some none)
    (z_int : PySem.W.nsIn K mainGlobals "int" = some none)
    (z_sum : PySem.W.nsIn K mainGlobals "sum" = some none)
    (z_max : PySem.W.nsIn K mainGlobals "max" = some none)
    (z_min : PySem.W.nsIn K mainGlobals "min" = some none)
    (z_enumerate : PySem.W.nsIn K mainGlobals "enumerate" = some none)
    (z_dict : PySem.W.nsIn K mainGlobals "dict" = some none)
    (n_LETTERS : PySem.W.nsIn K mainGlobals "LETTERS" = some (some (.str "abcdefghijklmnopqrstuvwxyz" t_LETTERS)))
    (n_LONGEST_KIND : PySem.W.nsIn K mainGlobals "LONGEST_KIND" = some (some (.int 4 t_LONGEST_KIND)))
    (n_MOST_LOCKS : PySem.W.nsIn K mainGlobals "MOST_LOCKS" = some (some (.int 4 t_MOST_LOCKS)))
    (n_MOST_ROOMS : PySem.W.nsIn K mainGlobals "MOST_ROOMS" = some (some (.int 12 t_MOST_ROOMS)))
    : ∃ fd : FuncData, (∀ (s : Shared) (v : Value), BindsTo s fd ⟨[v], []⟩ [("script", v)]) ∧ ∀ base : Heap, K.In base → base.Ns mainGlobals mg → FnOk l.prog w K mg base CX0 20 fa fd ["script"] (spLaw K) := by
  have e := hfa.symm.trans (PySem.W.mg_of X G a_law)
  cases e
  have F_is_kind := fun_mk (st := s_is_kind) l_is_kind e_is_kind k_is_kind
  have b_is_kind := F_is_kind.binds (ps := ["thing"]) fun _ _ _ _ _ _ us hl => match us, hl with | [_], _ => rfl
  have F_are_keys := fun_mk (st := s_are_keys) l_are_keys e_are_keys k_are_keys
  have b_are_keys := F_are_keys.binds (ps := ["thing"]) fun _ _ _ _ _ _ us hl => match us, hl with | [_], _ => rfl
  have F_is_room := fun_mk (st := s_is_room) l_is_room e_is_room k_is_room
  have b_is_room := F_is_room.binds (ps := ["thing"]) fun _ _ _ _ _ _ us hl => match us, hl with | [_], _ => rfl
  have F_is_house := fun_mk (st := s_is_house) l_is_house e_is_house k_is_house
  have b_is_house := F_is_house.binds (ps := ["thing"]) fun _ _ _ _ _ _ us hl => match us, hl with | [_], _ => rfl
  have F_need_house := fun_mk (st := s_need_house) l_need_house e_need_house k_need_house
  have b_need_house := F_need_house.binds (ps := ["thing"]) fun _ _ _ _ _ _ us hl => match us, hl with | [_], _ => rfl
  have F_need_few := fun_mk (st := s_need_few) l_need_few e_need_few k_need_few
  have b_need_few := F_need_few.binds (ps := ["house"]) fun _ _ _ _ _ _ us hl => match us, hl with | [_], _ => rfl
  have F_counted_kinds := fun_mk (st := s_counted_kinds) l_counted_kinds e_counted_kinds k_counted_kinds
  have b_counted_kinds := F_counted_kinds.binds (ps := ["kinds"]) fun _ _ _ _ _ _ us hl => match us, hl with | [_], _ => rfl
  have F_rooms_of := fun_mk (st := s_rooms_of) l_rooms_of e_rooms_of k_rooms_of
  have b_rooms_of := F_rooms_of.binds (ps := ["number"]) fun _ _ _ _ _ _ us hl => match us, hl with | [_], _ => rfl
  have F_sets_that_come := fun_mk (st := s_sets_that_come) l_sets_that_come e_sets_that_come k_sets_that_come
  have b_sets_that_come := F_sets_that_come.binds (ps := ["house"]) fun _ _ _ _ _ _ us hl => match us, hl with | [_], _ => rfl
  have F_need_worths := fun_mk (st := s_need_worths) l_need_worths e_need_worths k_need_worths
  have b_need_worths := F_need_worths.binds (ps := ["house", "worths"]) fun _ _ _ _ _ _ us hl => match us, hl with | [_, _], _ => rfl
  have F_worth_of := fun_mk (st := s_worth_of) l_worth_of e_worth_of k_worth_of
  have b_worth_of := F_worth_of.binds (ps := ["rooms", "worths"]) fun _ _ _ _ _ _ us hl => match us, hl with | [_, _], _ => rfl
  have F_most_rooms := fun_mk (st := s_most_rooms) l_most_rooms e_most_rooms k_most_rooms
  have b_most_rooms := F_most_rooms.binds (ps := ["house"]) fun _ _ _ _ _ _ us hl => match us, hl with | [_], _ => rfl
  have F_stuck_sets := fun_mk (st := s_stuck_sets) l_stuck_sets e_stuck_sets k_stuck_sets
  have b_stuck_sets := F_stuck_sets.binds (ps := ["house"]) fun _ _ _ _ _ _ us hl => match us, hl with | [_], _ => rfl
  have F_most_worth := fun_mk (st := s_most_worth) l_most_worth e_most_worth k_most_worth
  have b_most_worth := F_most_worth.binds (ps := ["house", "worths"]) fun _ _ _ _ _ _ us hl => match us, hl with | [_, _], _ => rfl
  have F_law_pool := fun_mk (st := s_law_pool) l_law_pool e_law_pool k_law_pool
  have b_law_pool := F_law_pool.binds (ps := ["script", "k"]) fun _ _ _ _ _ _ us hl => match us, hl with | [_, _], _ => rfl
  have F_law_draw := fun_mk (st := s_law_draw) l_law_draw e_law_draw k_law_draw
  have b_law_draw := F_law_draw.binds (ps := ["pool", "many"]) fun _ _ _ _ _ _ us hl => match us, hl with | [_, _], _ => rfl
  have F_law_kinds := fun_mk (st := s_law_kinds) l_law_kinds e_law_kinds k_law_kinds
  have b_law_kinds := F_law_kinds.binds (ps := ["pool", "many", "kinds"]) fun _ _ _ _ _ _ us hl => match us, hl with | [_, _, _], _ => rfl
  have F_law_words := fun_mk (st := s_law_words) l_law_words e_law_words k_law_words
  have b_law_words := F_law_words.binds (ps := ["pool"]) fun _ _ _ _ _ _ us hl => match us, hl with | [_], _ => rfl
  have F_law_house := fun_mk (st := s_law_house) l_law_house e_law_house k_law_house
  have b_law_house := F_law_house.binds (ps := ["pool", "many"]) fun _ _ _ _ _ _ us hl => match us, hl with | [_, _], _ => rfl
  have F_law_next := fun_mk (st := s_law_next) l_law_next e_law_next k_law_next
  have b_law_next := F_law_next.binds (ps := ["house", "order"]) fun _ _ _ _ _ _ us hl => match us, hl with | [_, _], _ => rfl
  have F_law_orders := fun_mk (st := s_law_orders) l_law_orders e_law_orders k_law_orders
  have b_law_orders := F_law_orders.binds (ps := ["house"]) fun _ _ _ _ _ _ us hl => match us, hl with | [_], _ => rfl
  have F_law_copy := fun_mk (st := s_law_copy) l_law_copy e_law_copy k_law_copy
  have b_law_copy := F_law_copy.binds (ps := ["thing"]) fun _ _ _ _ _ _ us hl => match us, hl with | [_], _ => rfl
  have F_law_worths := fun_mk (st := s_law_worths) l_law_worths e_law_worths k_law_worths
  have b_law_worths := F_law_worths.binds (ps := ["pool", "many"]) fun _ _ _ _ _ _ us hl => match us, hl with | [_, _], _ => rfl
  have F_law_worth := fun_mk (st := s_law_worth) l_law_worth e_law_worth k_law_worth
  have b_law_worth := F_law_worth.binds (ps := ["worths", "order"]) fun _ _ _ _ _ _ us hl => match us, hl with | [_, _], _ => rfl
  have F_law_best := fun_mk (st := s_law_best) l_law_best e_law_best k_law_best
  have b_law_best := F_law_best.binds (ps := ["worths", "every"]) fun _ _ _ _ _ _ us hl => match us, hl with | [_, _], _ => rfl
  have F_law_sets_right := fun_mk (st := s_law_sets_right) l_law_sets_right e_law_sets_right k_law_sets_right
  have b_law_sets_right := F_law_sets_right.binds (ps := ["house", "due"]) fun _ _ _ _ _ _ us hl => match us, hl with | [_, _], _ => rfl
  have F_law := fun_mk (st := s_law) l_law e_law k_law
  have b_law := F_law.binds (ps := ["script"]) fun _ _ _ _ _ _ us hl => match us, hl with | [_], _ => rfl
  have F_Opened_init := fun_mk (st := s_Opened_init) l_Opened_init e_Opened_init k_Opened_init
  have b_Opened_init := F_Opened_init.binds (ps := ["self", "house"]) fun _ _ _ _ _ _ us hl => match us, hl with | [_, _], _ => rfl
  have F_Opened_hand_at := fun_mk (st := s_Opened_hand_at) l_Opened_hand_at e_Opened_hand_at k_Opened_hand_at
  have b_Opened_hand_at := F_Opened_hand_at.binds (ps := ["self", "rooms"]) fun _ _ _ _ _ _ us hl => match us, hl with | [_, _], _ => rfl
  have F_Opened_next_at := fun_mk (st := s_Opened_next_at) l_Opened_next_at e_Opened_next_at k_Opened_next_at
  have b_Opened_next_at := F_Opened_next_at.binds (ps := ["self", "rooms"]) fun _ _ _ _ _ _ us hl => match us, hl with | [_, _], _ => rfl
  let T : Tx K mg := {
    f_is_kind := _, d_is_kind := _, F_is_kind := F_is_kind, b_is_kind := b_is_kind,
    g_is_kind := PySem.W.mg_of X G a_is_kind,
    f_are_keys := _, d_are_keys := _, F_are_keys := F_are_keys, b_are_keys := b_are_keys,
    g_are_keys := PySem.W.mg_of X G a_are_keys,
    f_is_room := _, d_is_room := _, F_is_room := F_is_room, b_is_room := b_is_room,
    g_is_room := PySem.W.mg_of X G a_is_room,
    f_is_house := _, d_is_house := _, F_is_house := F_is_house, b_is_house := b_is_house,
    g_is_house := PySem.W.mg_of X G a_is_house,
    f_need_house := _, d_need_house := _, F_need_house := F_need_house, b_need_house := b_need_house,
    g_need_house := PySem.W.mg_of X G a_need_house,
    f_need_few := _, d_need_few := _, F_need_few := F_need_few, b_need_few := b_need_few,
    g_need_few := PySem.W.mg_of X G a_need_few,
    f_counted_kinds := _, d_counted_kinds := _, F_counted_kinds := F_counted_kinds, b_counted_kinds := b_counted_kinds,
    g_counted_kinds := PySem.W.mg_of X G a_counted_kinds,
    f_rooms_of := _, d_rooms_of := _, F_rooms_of := F_rooms_of, b_rooms_of := b_rooms_of,
    g_rooms_of := PySem.W.mg_of X G a_rooms_of,
    f_sets_that_come := _, d_sets_that_come := _, F_sets_that_come := F_sets_that_come, b_sets_that_come := b_sets_that_come,
    g_sets_that_come := PySem.W.mg_of X G a_sets_that_come,
    f_need_worths := _, d_need_worths := _, F_need_worths := F_need_worths, b_need_worths := b_need_worths,
    g_need_worths := PySem.W.mg_of X G a_need_worths,
    f_worth_of := _, d_worth_of := _, F_worth_of := F_worth_of, b_worth_of := b_worth_of,
    g_worth_of := PySem.W.mg_of X G a_worth_of,
    f_most_rooms := _, d_most_rooms := _, F_most_rooms := F_most_rooms, b_most_rooms := b_most_rooms,
    g_most_rooms := PySem.W.mg_of X G a_most_rooms,
    f_stuck_sets := _, d_stuck_sets := _, F_stuck_sets := F_stuck_sets, b_stuck_sets := b_stuck_sets,
    g_stuck_sets := PySem.W.mg_of X G a_stuck_sets,
    f_most_worth := _, d_most_worth := _, F_most_worth := F_most_worth, b_most_worth := b_most_worth,
    g_most_worth := PySem.W.mg_of X G a_most_worth,
    f_law_pool := _, d_law_pool := _, F_law_pool := F_law_pool, b_law_pool := b_law_pool,
    g_law_pool := PySem.W.mg_of X G a_law_pool,
    f_law_draw := _, d_law_draw := _, F_law_draw := F_law_draw, b_law_draw := b_law_draw,
    g_law_draw := PySem.W.mg_of X G a_law_draw,
    f_law_kinds := _, d_law_kinds := _, F_law_kinds := F_law_kinds, b_law_kinds := b_law_kinds,
    g_law_kinds := PySem.W.mg_of X G a_law_kinds,
    f_law_words := _, d_law_words := _, F_law_words := F_law_words, b_law_words := b_law_words,
    g_law_words := PySem.W.mg_of X G a_law_words,
    f_law_house := _, d_law_house := _, F_law_house := F_law_house, b_law_house := b_law_house,
    g_law_house := PySem.W.mg_of X G a_law_house,
    f_law_next := _, d_law_next := _, F_law_next := F_law_next, b_law_next := b_law_next,
    g_law_next := PySem.W.mg_of X G a_law_next,
    f_law_orders := _, d_law_orders := _, F_law_orders := F_law_orders, b_law_orders := b_law_orders,
    g_law_orders := PySem.W.mg_of X G a_law_orders,
    f_law_copy := _, d_law_copy := _, F_law_copy := F_law_copy, b_law_copy := b_law_copy,
    g_law_copy := PySem.W.mg_of X G a_law_copy,
    f_law_worths := _, d_law_worths := _, F_law_worths := F_law_worths, b_law_worths := b_law_worths,
    g_law_worths := PySem.W.mg_of X G a_law_worths,
    f_law_worth := _, d_law_worth := _, F_law_worth := F_law_worth, b_law_worth := b_law_worth,
    g_law_worth := PySem.W.mg_of X G a_law_worth,
    f_law_best := _, d_law_best := _, F_law_best := F_law_best, b_law_best := b_law_best,
    g_law_best := PySem.W.mg_of X G a_law_best,
    f_law_sets_right := _, d_law_sets_right := _, F_law_sets_right := F_law_sets_right, b_law_sets_right := b_law_sets_right,
    g_law_sets_right := PySem.W.mg_of X G a_law_sets_right,
    f_law := _, d_law := _, F_law := F_law, b_law := b_law,
    g_law := PySem.W.mg_of X G a_law,
    f_Opened_init := _, d_Opened_init := _, F_Opened_init := F_Opened_init, b_Opened_init := b_Opened_init,
    f_Opened_hand_at := _, d_Opened_hand_at := _, F_Opened_hand_at := F_Opened_hand_at, b_Opened_hand_at := b_Opened_hand_at,
    me_Opened_hand_at := ⟨i_Opened_hand_at, n_Opened_hand_at, k_Opened_hand_at⟩,
    f_Opened_next_at := _, d_Opened_next_at := _, F_Opened_next_at := F_Opened_next_at, b_Opened_next_at := b_Opened_next_at,
    me_Opened_next_at := ⟨i_Opened_next_at, n_Opened_next_at, k_Opened_next_at⟩,
    O := ⟨ow_Opened, 0⟩,
    c_Opened := ⟨cg_Opened, ch_Opened, co_Opened, cs_Opened⟩, mk_Opened := ⟨cm_Opened, i_Opened_init, n_Opened_init, ck_Opened⟩, g_Opened := PySem.W.mg_of X G e_Opened,
    na_Opened_locks := na_Opened_locks,
    na_Opened_within := na_Opened_within,
    na_Opened_many := na_Opened_many,
    na_Opened_all_rooms := na_Opened_all_rooms,
    na_Opened_hands := na_Opened_hands,
    na_Opened_goings := na_Opened_goings,
    na_Opened_ends := na_Opened_ends,
    m_isinstance := PySem.W.mg_none_of X G z_isinstance,
    m_str := PySem.W.mg_none_of X G z_str,
    m_len := PySem.W.mg_none_of X G z_len,
    m_list := PySem.W.mg_none_of X G z_list,
    m_tuple := PySem.W.mg_none_of X G z_tuple,
    m_sorted := PySem.W.mg_none_of X G z_sorted,
    m_range := PySem.W.mg_none_of X G z_range,
    m_bool := PySem.W.mg_none_of X G z_bool,
    m_int := PySem.W.mg_none_of X G z_int,
    m_sum := PySem.W.mg_none_of X G z_sum,
    m_max := PySem.W.mg_none_of X G z_max,
    m_min := PySem.W.mg_none_of X G z_min,
    m_enumerate := PySem.W.mg_none_of X G z_enumerate,
    m_dict := PySem.W.mg_none_of X G z_dict,
    c_LETTERS := ⟨_, PySem.W.mg_of X G n_LETTERS, ⟨_, rfl⟩⟩,
    c_LONGEST_KIND := ⟨_, PySem.W.mg_of X G n_LONGEST_KIND, ⟨_, rfl⟩⟩,
    c_MOST_LOCKS := ⟨_, PySem.W.mg_of X G n_MOST_LOCKS, ⟨_, rfl⟩⟩,
    c_MOST_ROOMS := ⟨_, PySem.W.mg_of X G n_MOST_ROOMS, ⟨_, rfl⟩⟩ }
  exact ⟨_, fun s v => .of_eq rfl, fun base _ _ => ok_law T⟩
end Kr
open PySem PySem.W PyProof.Rows
set_option maxHeartbeats 0 in
theorem PySem.Challenge.cw_keyrooms_k30_the_most_holds : PySem.Challenge.rw_keyrooms_k30_the_most.Holds := by
  w_on; o_law; k_head; (case hw => w_witness2)
  k_fill
  refine L2.walk_of (l := PySem.Challenge.rw_keyrooms_k30_the_most) (n := 63) (k := 20) (x := "script") (CX := fun _ => L2.CX0) (sp := fun w => Kr.spLaw _) rfl (by decide) rfl ⟨rfl, by decide, by decide⟩ (fun w h Y => PySem.W.kIn_of Y) ?F (fun _ _ a ns hl _ hS => ⟨a, ns, rfl, hS, hl, fun _ => rfl⟩) (fun _ _ _ _ _ h => h)
  case F =>
    intro w mg fa h KX G hmg
    refine' Kr.all_mk KX G hmg ?a_is_kind ?l_is_kind ?e_is_kind ?k_is_kind ?a_are_keys ?l_are_keys ?e_are_keys ?k_are_keys ?a_is_room ?l_is_room ?e_is_room ?k_is_room ?a_is_house ?l_is_house ?e_is_house ?k_is_house ?a_need_house ?l_need_house ?e_need_house ?k_need_house ?a_need_few ?l_need_few ?e_need_few ?k_need_few ?a_counted_kinds ?l_counted_kinds ?e_counted_kinds ?k_counted_kinds ?a_rooms_of ?l_rooms_of ?e_rooms_of ?k_rooms_of ?a_sets_that_come ?l_sets_that_come ?e_sets_that_come ?k_sets_that_come ?a_need_worths ?l_need_worths ?e_need_worths ?k_need_worths ?a_worth_of ?l_worth_of ?e_worth_of ?k_worth_of ?a_most_rooms ?l_most_rooms ?e_most_rooms ?k_most_rooms ?a_stuck_sets ?l_stuck_sets ?e_stuck_sets ?k_stuck_sets ?a_most_worth ?l_most_worth ?e_most_worth ?k_most_worth ?a_law_pool ?l_law_pool ?e_law_pool ?k_law_pool ?a_law_draw ?l_law_draw ?e_law_draw ?k_law_draw ?a_law_kinds ?l_law_kinds ?e_law_kinds ?k_law_kinds ?a_law_words ?l_law_words ?e_law_words ?k_law_words ?a_law_house ?l_law_house ?e_law_house ?k_law_house ?a_law_next ?l_law_next ?e_law_next ?k_law_next ?a_law_orders ?l_law_orders ?e_law_orders ?k_law_orders ?a_law_copy ?l_law_copy ?e_law_copy ?k_law_copy ?a_law_worths ?l_law_worths ?e_law_worths ?k_law_worths ?a_law_worth ?l_law_worth ?e_law_worth ?k_law_worth ?a_law_best ?l_law_best ?e_law_best ?k_law_best ?a_law_sets_right ?l_law_sets_right ?e_law_sets_right ?k_law_sets_right ?a_law ?l_law ?e_law ?k_law ?e_Opened ?cg_Opened ?ch_Opened ?co_Opened ?cs_Opened ?cm_Opened ?ck_Opened ?na_Opened_locks ?na_Opened_within ?na_Opened_many ?na_Opened_all_rooms ?na_Opened_hands ?na_Opened_goings ?na_Opened_ends ?i_Opened_init ?n_Opened_init ?l_Opened_init ?e_Opened_init ?k_Opened_init ?i_Opened_hand_at ?n_Opened_hand_at ?l_Opened_hand_at ?e_Opened_hand_at ?k_Opened_hand_at ?i_Opened_next_at ?n_Opened_next_at ?l_Opened_next_at ?e_Opened_next_at ?k_Opened_next_at ?z_isinstance ?z_str ?z_len ?z_list ?z_tuple ?z_sorted ?z_range ?z_bool ?z_int ?z_sum ?z_max ?z_min ?z_enumerate ?z_dict ?n_LETTERS ?n_LONGEST_KIND ?n_MOST_LOCKS ?n_MOST_ROOMS
    case a_is_kind => k_is
    case l_is_kind => k_is
    case e_is_kind => k_is
    case k_is_kind => k_is
    case a_are_keys => k_is
    case l_are_keys => k_is
    case e_are_keys => k_is
    case k_are_keys => k_is
    case a_is_room => k_is
    case l_is_room => k_is
    case e_is_room => k_is
    case k_is_room => k_is
    case a_is_house => k_is
    case l_is_house => k_is
    case e_is_house => k_is
    case k_is_house => k_is
    case a_need_house => k_is
    case l_need_house => k_is
    case e_need_house => k_is
    case k_need_house => k_is
    case a_need_few => k_is
    case l_need_few => k_is
    case e_need_few => k_is
    case k_need_few => k_is
    case a_counted_kinds => k_is
    case l_counted_kinds => k_is
    case e_counted_kinds => k_is
    case k_counted_kinds => k_is
    case a_rooms_of => k_is
    case l_rooms_of => k_is
    case e_rooms_of => k_is
    case k_rooms_of => k_is
    case a_sets_that_come => k_is
    case l_sets_that_come => k_is
    case e_sets_that_come => k_is
    case k_sets_that_come => k_is
    case a_need_worths => k_is
    case l_need_worths => k_is
    case e_need_worths => k_is
    case k_need_worths => k_is
    case a_worth_of => k_is
    case l_worth_of => k_is
    case e_worth_of => k_is
    case k_worth_of => k_is
    case a_most_rooms => k_is
    case l_most_rooms => k_is
    case e_most_rooms => k_is
    case k_most_rooms => k_is
    case a_stuck_sets => k_is
    case l_stuck_sets => k_is
    case e_stuck_sets => k_is
    case k_stuck_sets => k_is
    case a_most_worth => k_is
    case l_most_worth => k_is
    case e_most_worth => k_is
    case k_most_worth => k_is
    case a_law_pool => k_is
    case l_law_pool => k_is
    case e_law_pool => k_is
    case k_law_pool => k_is
    case a_law_draw => k_is
    case l_law_draw => k_is
    case e_law_draw => k_is
    case k_law_draw => k_is
    case a_law_kinds => k_is
    case l_law_kinds => k_is
    case e_law_kinds => k_is
    case k_law_kinds => k_is
    case a_law_words => k_is
    case l_law_words => k_is
    case e_law_words => k_is
    case k_law_words => k_is
    case a_law_house => k_is
    case l_law_house => k_is
    case e_law_house => k_is
    case k_law_house => k_is
    case a_law_next => k_is
    case l_law_next => k_is
    case e_law_next => k_is
    case k_law_next => k_is
    case a_law_orders => k_is
    case l_law_orders => k_is
    case e_law_orders => k_is
    case k_law_orders => k_is
    case a_law_copy => k_is
    case l_law_copy => k_is
    case e_law_copy => k_is
    case k_law_copy => k_is
    case a_law_worths => k_is
    case l_law_worths => k_is
    case e_law_worths => k_is
    case k_law_worths => k_is
    case a_law_worth => k_is
    case l_law_worth => k_is
    case e_law_worth => k_is
    case k_law_worth => k_is
    case a_law_best => k_is
    case l_law_best => k_is
    case e_law_best => k_is
    case k_law_best => k_is
    case a_law_sets_right => k_is
    case l_law_sets_right => k_is
    case e_law_sets_right => k_is
    case k_law_sets_right => k_is
    case a_law => k_is
    case l_law => k_is
    case e_law => k_is
    case k_law => k_is
    case e_Opened => k_is
    case cg_Opened => k_is
    case ch_Opened => k_is
    case co_Opened => k_is
    case cs_Opened => k_is
    case cm_Opened => k_is
    case ck_Opened => k_is
    case na_Opened_locks => k_is
    case na_Opened_within => k_is
    case na_Opened_many => k_is
    case na_Opened_all_rooms => k_is
    case na_Opened_hands => k_is
    case na_Opened_goings => k_is
    case na_Opened_ends => k_is
    case i_Opened_init => k_is
    case n_Opened_init => k_is
    case l_Opened_init => k_is
    case e_Opened_init => k_is
    case k_Opened_init => k_is
    case i_Opened_hand_at => k_is
    case n_Opened_hand_at => k_is
    case l_Opened_hand_at => k_is
    case e_Opened_hand_at => k_is
    case k_Opened_hand_at => k_is
    case i_Opened_next_at => k_is
    case n_Opened_next_at => k_is
    case l_Opened_next_at => k_is
    case e_Opened_next_at => k_is
    case k_Opened_next_at => k_is
    case z_isinstance => k_is
    case z_str => k_is
    case z_len => k_is
    case z_list => k_is
    case z_tuple => k_is
    case z_sorted => k_is
    case z_range => k_is
    case z_bool => k_is
    case z_int => k_is
    case z_sum => k_is
    case z_max => k_is
    case z_min => k_is
    case z_enumerate => k_is
    case z_dict => k_is
    case n_LETTERS => k_is
    case n_LONGEST_KIND => k_is
    case n_MOST_LOCKS => k_is
    case n_MOST_ROOMS => k_is
